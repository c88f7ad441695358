/- What the printed functions of layer 1 (nat) answer, on lists and numbers alone: trim, Norm, same, Add, Mul; for limbs that are 32-bit words, of lengths below the bounds that each lemma names. -/
import Derived.Test.YtmbmbmkmjbpcpaaNumsK
import Derived.Test.YtmbmbmkmjbpcpaaPAx1K
import Derived.Test.YtmbmbmkmjbpcpaaPAx5K
import Derived.Test.YtmbmbmkmjbpcpaaPAx6K
namespace Go.Proofs.Ytmbmbmkmjbpcpaa.PA
open Go Go.RowKit Go.Proofs.YtmbmbmkmjbpcpaaW.PrintWords Go.Proofs.YtmbmbmkmjbpcpaaW.PrintLast Go.Proofs.YtmbmbmkmjbpcpaaW.PrintMore
open Go.Proofs.Ytmbmbmkmjbpcpaa.Nums

/-! ### words -/
theorem w64 {n : Int} (h0 : -9223372036854775808 ≤ n) (h1 : n < 9223372036854775808) : wrap64 n = n := by unfold wrap64; omega
theorem u64w {n : Int} (h0 : 0 ≤ n) (h1 : n < 18446744073709551616) : IntKind.u64.wrap n = n := by
  show n % 18446744073709551616 = n
  omega
theorem rd_getD (xs : List Int) (n : Nat) : rd xs (n : Int) = xs.getD n 0 := by simp [rd]
theorem ev_pos {α : Type} {c : Prop} [Decidable c] (h : c) {f g : Nat → Option α} {r : α} (e : Ev f r) : Ev (fun k => if c then f k else g k) r := by
  simp only [if_pos h]; exact e
theorem ev_neg {α : Type} {c : Prop} [Decidable c] (h : ¬ c) {f g : Nat → Option α} {r : α} (e : Ev g r) : Ev (fun k => if c then f k else g k) r := by
  simp only [if_neg h]; exact e
theorem ev_now {α : Type} {a r : α} (h : a = r) : Ev (fun _ => some a) r := by rw [h]; exact Ev.now r
/-! ### trim -/
theorem trim_l0 (l : List Int) (hl : l.length ≤ 4611686018427387904) : Ev (fun k => nat_trim.l0 k l) (trim l) := by
  induction hn : l.length generalizing l with
  | zero =>
    have : l = [] := List.length_eq_zero_iff.1 hn
    subst this
    exact Ev.step (fun _ => rfl) (ev_neg (by simp) (ev_now (by simp [trim])))
  | succ n ih =>
    obtain ⟨a, x, rfl⟩ : ∃ a x, l = a ++ [x] := ⟨l.dropLast, l.getLast (by intro e; simp [e] at hn), (List.dropLast_concat_getLast _).symm⟩
    have hlen : (a ++ [x]).length = a.length + 1 := by simp
    have han : a.length = n := by omega
    have hw : wrap64 (((a ++ [x]).length : Int) - 1) = (a.length : Int) := by rw [w64 (by omega) (by omega)]; omega
    refine Ev.step (fun _ => rfl) ?_
    refine ev_pos (by omega) ?_
    rw [hw]
    refine ev_pos (by omega) (ev_pos (by omega) ?_)
    have hrd : rd (a ++ [x]) (a.length : Int) = x := by rw [rd_getD]; simp
    rw [hrd]
    by_cases hx : x = 0
    · refine ev_pos hx (ev_pos (by omega) ?_)
      subst hx
      have := ih a (by omega) han
      rw [trim_snoc_zero]
      simpa using this
    · refine ev_neg hx (ev_now ?_)
      induction a generalizing n with
      | nil => simp [trim, hx]
      | cons y ys ih2 =>
        have hne : ∀ zs : List Int, trim (zs ++ [x]) ≠ [] := by
          intro zs
          induction zs with
          | nil => simp [trim, hx]
          | cons z zs ih3 => simp only [List.cons_append, trim, ih3, and_false, if_false]; simp
        have h2 : ∀ zs : List Int, zs ++ [x] = trim (zs ++ [x]) := by
          intro zs
          induction zs with
          | nil => simp [trim, hx]
          | cons z zs ih3 => simp only [List.cons_append, trim, hne, and_false, if_false]; rw [← ih3]
        exact h2 (y :: ys)
theorem trim_f (l : List Int) (hl : l.length ≤ 4611686018427387904) : Ev (fun k => nat_trim.f k l) (trim l) := trim_l0 l hl
theorem trim_own_l0 : nat_trim_own.l0 = nat_trim.l0 := by
  funext k
  induction k with
  | zero => funext l; rfl
  | succ k ih => funext l; simp only [nat_trim_own.l0, nat_trim.l0, ih]
theorem trim_own_f (l : List Int) (hl : l.length ≤ 4611686018427387904) : Ev (fun k => nat_trim_own.f k l) (trim l) := by
  unfold nat_trim_own.f; rw [trim_own_l0]; exact trim_l0 l hl
theorem norm_f (l : List Int) (hl : l.length ≤ 35184372088831) : Ev (fun k => nat_Norm.f k l) (trim l) := by
  unfold nat_Norm.f
  refine Ev.bind (trim_f l (by omega)) ?_
  have := trim_len l
  refine ev_pos (by simp; omega) (ev_now (by simp))

theorem set_take (l : List Int) (n : Nat) (v : Int) (h : n < l.length) : (l.set n v).take (n + 1) = l.take n ++ [v] := by
  rw [List.take_succ_eq_append_getElem (by simpa using h)]
  simp [List.take_set_of_le]
theorem val_set_take (l : List Int) (n : Nat) (v : Int) (h : n < l.length) : val ((l.set n v).take (n + 1)) = val (l.take n) + Bp n * v := by
  rw [set_take l n v h, val_snoc, List.length_take, Nat.min_eq_left (by omega)]
theorem val_set_last (l : List Int) (n : Nat) (v : Int) (h : l.length = n + 1) : val (l.set n v) = val (l.take n) + Bp n * v := by
  have := val_set_take l n v (by omega)
  rwa [List.take_of_length_le (by simp; omega)] at this
theorem carry (B v : Int) : B * (v % 4294967296) + 4294967296 * B * (v / 4294967296) = B * v := by
  have h := Int.emod_add_mul_ediv v 4294967296
  have : 4294967296 * B * (v / 4294967296) = B * (4294967296 * (v / 4294967296)) := by grind
  rw [this, ← Int.mul_add, h]
theorem rd_ok {a : List Int} (h : Ok a) (i : Int) : 0 ≤ rd a i ∧ rd a i < 4294967296 := ok_getD h _
theorem val_take_succ_ge (b : List Int) (n : Nat) (h : b.length ≤ n) : val (b.take (n + 1)) = val (b.take n) := by rw [List.take_of_length_le (by omega), List.take_of_length_le h]

theorem add_l0 (a b : List Int) (ha : Ok a) (hb : Ok b) (hla : a.length ≤ 70368744177663) (hba : b.length ≤ a.length) (d : Nat) :
    ∀ (out : List Int) (c : Int) (n : Nat), a.length - n = d → Ok out → out.length = a.length + 1 → n ≤ a.length → 0 ≤ c → c ≤ 1 →
      val (out.take n) + Bp n * c = val (a.take n) + val (b.take n) →
      Ev (fun k => nat_Add.l0 k a b out c (a.length : Int) (n : Int)) (lm (val a + val b)) := by
  induction d with
  | zero =>
    intro out c n hd ho hlo hn hc0 hc1 inv
    have : n = a.length := by omega
    subst this
    have hc : c % 4294967296 = c := by omega
    refine Ev.step (fun _ => rfl) (ev_neg (by omega) (ev_pos (by omega) (ev_pos (by omega) ?_)))
    refine Ev.bind (trim_own_f _ (by simp; omega)) (ev_now ?_)
    have hOk : Ok (out.set ((a.length : Int)).toNat (c % 4294967296)) := ok_set ho _ (by omega) (by omega)
    rw [trim_lm hOk, Int.toNat_natCast, val_set_last out a.length _ hlo, hc, inv, List.take_of_length_le (Nat.le_refl _), List.take_of_length_le hba]
  | succ d ih =>
    intro out c n hd ho hlo hn hc0 hc1 inv
    have h1 := rd_ok ha (n : Int)
    have h2 := rd_ok hb (n : Int)
    refine Ev.step (fun _ => rfl) (ev_pos (by omega) (ev_pos (by omega) (ev_pos (by omega) ?_)))
    rw [w64 (n := (n : Int) + 1) (by omega) (by omega)]
    by_cases hnb : n < b.length
    · refine ev_pos (by omega) (ev_pos (by omega) ?_)
      rw [u64w (n := rd a n) (by omega) (by omega), u64w (n := rd b n) (by omega) (by omega), u64w (n := c + rd a n) (by omega) (by omega), u64w (n := c + rd a n + rd b n) (by omega) (by omega), Int.toNat_natCast]
      have := ih (out.set n ((c + rd a n + rd b n) % 4294967296)) ((c + rd a n + rd b n) / 4294967296) (n + 1) (by omega) (ok_set ho _ (by omega) (by omega)) (by simpa using hlo) (by omega) (by omega) (by omega) (by
        rw [val_set_take out n _ (by omega), val_take_succ a n (by omega), val_take_succ b n hnb, Bp_succ, Int.add_assoc, carry, ← rd_getD, ← rd_getD]
        have : Bp n * (c + rd a n + rd b n) = Bp n * c + Bp n * rd a n + Bp n * rd b n := by grind
        rw [this]; omega)
      simpa using this
    · refine ev_neg (by omega) (ev_pos (by omega) ?_)
      rw [u64w (n := rd a n) (by omega) (by omega), u64w (n := c + rd a n) (by omega) (by omega), Int.toNat_natCast]
      have := ih (out.set n ((c + rd a n) % 4294967296)) ((c + rd a n) / 4294967296) (n + 1) (by omega) (ok_set ho _ (by omega) (by omega)) (by simpa using hlo) (by omega) (by omega) (by omega) (by
        rw [val_set_take out n _ (by omega), val_take_succ a n (by omega), val_take_succ_ge b n (by omega), Bp_succ, Int.add_assoc, carry, ← rd_getD]
        have : Bp n * (c + rd a n) = Bp n * c + Bp n * rd a n := by grind
        rw [this]; omega)
      simpa using this
theorem add_j0 (a b : List Int) (ha : Ok a) (hb : Ok b) (hla : a.length ≤ 70368744177663) (hba : b.length ≤ a.length) : Ev (fun k => nat_Add.j0 k a b) (lm (val a + val b)) := by
  have hw : wrap64 ((a.length : Int) + 1) = (a.length : Int) + 1 := w64 (by omega) (by omega)
  refine Ev.step (fun k => by rw [nat_Add.j0, hw]) ?_
  refine ev_pos (by omega) (ev_pos (by omega) ?_)
  have hz : ((a.length : Int) + 1).toNat = a.length + 1 := by omega
  rw [hz]
  exact add_l0 a b ha hb hla hba a.length _ 0 0 (by omega) (ok_replicate _) (by simp) (by omega) (by omega) (by omega) (by simp [val])
theorem add_f (a b : List Int) (ha : Ok a) (hb : Ok b) (hla : a.length ≤ 70368744177663) (hlb : b.length ≤ 70368744177663) : Ev (fun k => nat_Add.f k a b) (lm (val a + val b)) := by
  unfold nat_Add.f
  by_cases h : (a.length : Int) < (b.length : Int)
  · refine ev_pos h ?_
    rw [Int.add_comm]
    exact add_j0 b a hb ha hlb (by omega)
  · exact ev_neg h (add_j0 a b ha hb hla (by omega))

/-! ### products -/
/-- one row: the limb x of a times b, added at place i -/
theorem val_set_mid (l : List Int) (n : Nat) (v : Int) (h : n < l.length) : val (l.set n v) = val l + Bp n * (v - l.getD n 0) := by
  rw [val_take_drop l n (by omega), val_drop_cons l n h, val_take_drop (l.set n v) n (by simp; omega), List.take_set_of_le (Nat.le_refl _), val_drop_cons (l.set n v) n (by simpa using h)]
  have h1 : (l.set n v).getD n 0 = v := by simp [List.getD, h]
  have h2 : (l.set n v).drop (n + 1) = l.drop (n + 1) := by rw [List.drop_set_of_lt (by omega)]
  rw [h1, h2]
  grind
theorem getD_set_ne (l : List Int) (n m : Nat) (v : Int) (h : n ≠ m) : (l.set n v).getD m 0 = l.getD m 0 := by
  simp [List.getD, List.getElem?_set_ne h]

theorem mulA {P Q c T B x V : Int} (h : P + Q * c = T * V + B * (x * V)) : P + Q * (c - 0) = (T + B * x) * V := by
  rw [Int.sub_zero, h, Int.add_mul, Int.mul_assoc B]
theorem mulB {P Bi Bj c S x y o W v m q Vj : Int} (h : P + Bi * Bj * c = S + Bi * (x * Vj)) (hc : Bi * Bj * m + W * (Bi * Bj) * q = Bi * Bj * v) (hv : c + (x * y + o) = v) :
    P + Bi * Bj * (m - o) + W * (Bi * Bj) * q = S + Bi * (x * (Vj + Bj * y)) := by
  subst hv
  grind
theorem mul_l1 (a b : List Int) (ha : Ok a) (hb : Ok b) (hl : a.length + b.length ≤ 70368744177664) (i : Nat) (hi : i < a.length) (x20 : Int) (R : List Int)
    (next : ∀ out : List Int, Ok out → out.length = a.length + b.length → (∀ j, i + 1 + b.length ≤ j → out.getD j 0 = 0) → val out = val (a.take (i + 1)) * val b → Ev (fun k => nat_Mul.l0 k a b out x20 ((i : Int) + 1)) R)
    (d : Nat) : ∀ (out : List Int) (c : Int) (j : Nat), b.length - j = d → Ok out → out.length = a.length + b.length → j ≤ b.length → 0 ≤ c → c < 4294967296 →
      (∀ m, i + b.length ≤ m → out.getD m 0 = 0) →
      val out + Bp (i + j) * c = val (a.take i) * val b + Bp i * (rd a i * val (b.take j)) →
      Ev (fun k => nat_Mul.l1 k a b out (i : Int) c x20 (i : Int) (b.length : Int) (j : Int)) R := by
  induction d with
  | zero =>
    intro out c j hd ho hlo hj hc0 hc1 hz inv
    have INV := Aside0.mk inv
    clear inv
    have : j = b.length := by omega
    subst this
    have hc : c % 4294967296 = c := by omega
    have hw : wrap64 ((i : Int) + (b.length : Int)) = ((i + b.length : Nat) : Int) := by rw [w64 (by omega) (by omega)]; omega
    refine Ev.step (fun k => by rw [nat_Mul.l1]) ?_
    refine ev_neg (by omega) ?_
    refine ev_pos (by rw [hw]; omega) ?_
    refine ev_pos (by rw [hw]; omega) ?_
    rw [hw, hc, Int.toNat_natCast, w64 (n := (i : Int) + 1) (by omega) (by omega)]
    refine next _ (ok_set ho _ hc0 hc1) (by simpa using hlo) ?_ ?_
    · intro m hm
      rw [getD_set_ne _ _ _ _ (by omega)]
      exact hz m (by omega)
    · rw [val_set_mid out _ c (by omega), hz _ (Nat.le_refl _), val_take_succ a i hi, ← rd_getD]
      have inv := INV.out
      rw [List.take_of_length_le (Nat.le_refl _)] at inv
      exact mulA inv
  | succ d ih =>
    intro out c j hd ho hlo hj hc0 hc1 hz inv
    have INV := Aside0.mk inv
    clear inv
    have hw : wrap64 ((i : Int) + (j : Int)) = ((i + j : Nat) : Int) := by rw [w64 (by omega) (by omega)]; omega
    refine Ev.step (fun k => by rw [nat_Mul.l1]) ?_
    refine ev_pos (by omega) ?_
    refine ev_pos (by omega) ?_
    refine ev_pos (by omega) ?_
    refine ev_pos (by omega) ?_
    refine ev_pos (by omega) ?_
    refine ev_pos (by rw [hw]; omega) ?_
    refine ev_pos (by rw [hw]; omega) ?_
    rw [hw]
    clear hw
    have h1 := rd_ok ha (i : Int)
    have h2 := rd_ok hb (j : Int)
    have h3 := rd_ok ho ((i + j : Nat) : Int)
    have hp0 : 0 ≤ rd a i * rd b j := Int.mul_nonneg h1.1 h2.1
    have hp1 : rd a i * rd b j ≤ 4294967295 * 4294967295 := Int.mul_le_mul (by omega) (by omega) h2.1 (by omega)
    rw [Int.toNat_natCast, w64 (n := (j : Int) + 1) (by omega) (by omega), u64w (n := rd a i) (by omega) (by omega), u64w (n := rd b j) (by omega) (by omega), u64w (n := rd out _) (by omega) (by omega), u64w (n := rd a i * rd b j) (by omega) (by omega)]
    rw [u64w (n := rd a i * rd b j + rd out _) (by omega) (by omega), u64w (n := c + (rd a i * rd b j + rd out _)) (by omega) (by omega)]
    generalize hv : c + (rd a i * rd b j + rd out ((i + j : Nat) : Int)) = v
    have := ih (out.set (i + j) (v % 4294967296)) (v / 4294967296) (j + 1) (by omega) (ok_set ho _ (by omega) (by omega)) (by simpa using hlo) (by omega) (by omega) (by omega)
      (by intro m hm; rw [getD_set_ne _ _ _ _ (by omega)]; exact hz m hm)
      (by
        rw [val_set_mid out _ _ (by omega), val_take_succ b j (by omega), ← rd_getD, ← rd_getD, show i + (j + 1) = (i + j) + 1 from by omega, Bp_succ, Bp_add i j]
        have inv := INV.out
        rw [Bp_add i j] at inv
        exact mulB inv (carry (Bp i * Bp j) v) hv)
    simpa using this
theorem mul_l0 (a b : List Int) (ha : Ok a) (hb : Ok b) (hl : a.length + b.length ≤ 70368744177664) (d : Nat) :
    ∀ (out : List Int) (i : Nat), a.length - i = d → Ok out → out.length = a.length + b.length → i ≤ a.length → (∀ j, i + b.length ≤ j → out.getD j 0 = 0) → val out = val (a.take i) * val b →
      Ev (fun k => nat_Mul.l0 k a b out (a.length : Int) (i : Int)) (lm (val a * val b)) := by
  induction d with
  | zero =>
    intro out i hd ho hlo hi hz inv
    have : i = a.length := by omega
    subst this
    refine Ev.step (fun k => by rw [nat_Mul.l0]) ?_
    refine ev_neg (by omega) ?_
    refine Ev.bind (trim_own_f _ (by omega)) ?_
    refine ev_now ?_
    rw [trim_lm ho, inv, List.take_of_length_le (Nat.le_refl _)]
  | succ d ih =>
    intro out i hd ho hlo hi hz inv
    refine Ev.step (fun k => by rw [nat_Mul.l0]) ?_
    refine ev_pos (by omega) ?_
    refine mul_l1 a b ha hb hl i (by omega) _ _ ?_ b.length out 0 0 (by omega) ho hlo (by omega) (by omega) (by omega) hz (by simp [val, inv])
    intro out2 ho2 hlo2 hz2 inv2
    have := ih out2 (i + 1) (by omega) ho2 hlo2 (by omega) (fun j hj => hz2 j (by omega)) inv2
    simpa using this
theorem mul_f (a b : List Int) (ha : Ok a) (hb : Ok b) (hl : a.length + b.length ≤ 70368744177664) : Ev (fun k => nat_Mul.f k a b) (lm (val a * val b)) := by
  unfold nat_Mul.f
  have h1 := trim_len a
  have h2 := trim_len b
  refine Ev.bind (trim_f a (by omega)) ?_
  refine Ev.bind (trim_f b (by omega)) ?_
  have hw : wrap64 (((trim a).length : Int) + ((trim b).length : Int)) = (((trim a).length + (trim b).length : Nat) : Int) := by rw [w64 (by omega) (by omega)]; omega
  rw [hw]
  refine ev_pos (by omega) ?_
  refine ev_pos (by omega) ?_
  rw [Int.toNat_natCast]
  have := mul_l0 (trim a) (trim b) (trim_ok ha) (trim_ok hb) (by omega) (trim a).length (List.replicate ((trim a).length + (trim b).length) 0) 0 (by omega) (ok_replicate _) (by simp) (by omega)
    (by intro j hj; simp only [List.getD, List.getElem?_replicate]; split <;> rfl) (by rw [val_zeros]; simp [val])
  rw [trim_val, trim_val] at this
  simpa using this

end Go.Proofs.Ytmbmbmkmjbpcpaa.PA

