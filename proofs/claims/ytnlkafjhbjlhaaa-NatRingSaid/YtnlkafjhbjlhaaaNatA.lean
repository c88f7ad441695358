/- What the printed functions of layer 1 (nat) answer, on lists and numbers alone: trim, Norm, same, Add, Mul, Cmp, less, Sub; for limbs that are 32-bit words, of lengths below the bounds that each lemma names. -/
import Derived.Test.YtnlkafjhbjlhaaaNums
import Derived.Test.YtnlkafjhbjlhaaaPAx1
import Derived.Test.YtnlkafjhbjlhaaaPAx10
import Derived.Test.YtnlkafjhbjlhaaaPAx12
import Derived.Test.YtnlkafjhbjlhaaaPAx16
import Derived.Test.YtnlkafjhbjlhaaaPAx17
import Derived.Test.YtnlkafjhbjlhaaaPAx2
namespace Go.Proofs.Ytnlkafjhbjlhaaa.PA
open Go Go.RowKit Go.Proofs.YtnlkafjhbjlhaaaW.PrintWords Go.Proofs.YtnlkafjhbjlhaaaW.PrintLast Go.Proofs.YtnlkafjhbjlhaaaW.PrintMore
open Go.Proofs.Ytnlkafjhbjlhaaa.Nums

/-! ### words -/
theorem w64 {n : Int} (h0 : -9223372036854775808 ≤ n) (h1 : n < 9223372036854775808) : wrap64 n = n := by unfold wrap64; omega
theorem u64w {n : Int} (h0 : 0 ≤ n) (h1 : n < 18446744073709551616) : IntKind.u64.wrap n = n := by
  show n % 18446744073709551616 = n
  omega
theorem rd_getD (xs : List Int) (n : Nat) : rd xs (n : Int) = xs.getD n 0 := by simp [rd]
theorem ev_pos {α : Type} {c : Prop} [Decidable c] (h : c) {f g : Nat → Option α} {r : α} (e : Ev f r) : Ev (fun k => if c then f k else g k) r := by
  simp only [if_pos h]; exact e
theorem ev_neg {α : Type} {c : Prop} [Decidable c] (h : ¬ c) {f g : Nat → Option α} {r : α} (e : Ev g r) : Ev (fun k => if c then f k else g k) r := by
  simp only [if_neg h]; exact e
theorem ev_now {α : Type} {a r : α} (h : a = r) : Ev (fun _ => some a) r := by rw [h]; exact Ev.now r
theorem ev_some {α : Type} {o : Option α} {r : α} (h : o = some r) : Ev (fun _ => o) r := by rw [h]; exact Ev.now r

/-! ### trim -/
theorem trim_l0 (l : List Int) (hl : l.length ≤ 4611686018427387904) : Ev (fun k => nat_trim.l0 k l) (trim l) := by
  induction hn : l.length generalizing l with
  | zero =>
    have : l = [] := List.length_eq_zero_iff.1 hn
    subst this
    exact Ev.step (fun _ => rfl) (ev_neg (by simp) (ev_now (by simp [trim])))
  | succ n ih =>
    obtain ⟨a, x, rfl⟩ : ∃ a x, l = a ++ [x] := ⟨l.dropLast, l.getLast (by intro e; simp [e] at hn), (List.dropLast_concat_getLast _).symm⟩
    have hlen : (a ++ [x]).length = a.length + 1 := by simp
    have han : a.length = n := by omega
    have hw : wrap64 (((a ++ [x]).length : Int) - 1) = (a.length : Int) := by rw [w64 (by omega) (by omega)]; omega
    refine Ev.step (fun _ => rfl) ?_
    refine ev_pos (by omega) ?_
    rw [hw]
    refine ev_pos (by omega) (ev_pos (by omega) ?_)
    have hrd : rd (a ++ [x]) (a.length : Int) = x := by rw [rd_getD]; simp
    rw [hrd]
    by_cases hx : x = 0
    · refine ev_pos hx (ev_pos (by omega) ?_)
      subst hx
      have := ih a (by omega) han
      rw [trim_snoc_zero]
      simpa using this
    · refine ev_neg hx (ev_now ?_)
      induction a generalizing n with
      | nil => simp [trim, hx]
      | cons y ys ih2 =>
        have hne : ∀ zs : List Int, trim (zs ++ [x]) ≠ [] := by
          intro zs
          induction zs with
          | nil => simp [trim, hx]
          | cons z zs ih3 => simp only [List.cons_append, trim, ih3, and_false, if_false]; simp
        have h2 : ∀ zs : List Int, zs ++ [x] = trim (zs ++ [x]) := by
          intro zs
          induction zs with
          | nil => simp [trim, hx]
          | cons z zs ih3 => simp only [List.cons_append, trim, hne, and_false, if_false]; rw [← ih3]
        exact h2 (y :: ys)
theorem trim_f (l : List Int) (hl : l.length ≤ 4611686018427387904) : Ev (fun k => nat_trim.f k l) (trim l) := trim_l0 l hl
theorem trim_own_l0 : nat_trim_own.l0 = nat_trim.l0 := by
  funext k
  induction k with
  | zero => funext l; rfl
  | succ k ih => funext l; simp only [nat_trim_own.l0, nat_trim.l0, ih]
theorem trim_own_f (l : List Int) (hl : l.length ≤ 4611686018427387904) : Ev (fun k => nat_trim_own.f k l) (trim l) := by
  unfold nat_trim_own.f; rw [trim_own_l0]; exact trim_l0 l hl
theorem norm_f (l : List Int) (hl : l.length ≤ 35184372088831) : Ev (fun k => nat_Norm.f k l) (trim l) := by
  unfold nat_Norm.f
  refine Ev.bind (trim_f l (by omega)) ?_
  have := trim_len l
  refine ev_pos (by simp; omega) (ev_now (by simp))

/-! ### same -/
theorem same_l0 (l : List Int) (hl : l.length ≤ 4611686018427387904) (n : Nat) (hn : n ≤ l.length) : Ev (fun k => trammellaw01_same.l0 k l l (n : Int)) true := by
  induction hd : l.length - n generalizing n with
  | zero => exact Ev.step (fun _ => rfl) (ev_neg (by omega) (ev_now rfl))
  | succ d ih =>
    refine Ev.step (fun _ => rfl) (ev_pos (by omega) (ev_pos (by omega) (ev_pos (by omega) (ev_pos rfl ?_))))
    rw [w64 (by omega) (by omega)]
    have := ih (n + 1) (by omega) (by omega)
    simpa using this
theorem same_f (l m : List Int) (h : l = m) (hl : l.length ≤ 4611686018427387904) : Ev (fun k => trammellaw01_same.f k l m) true := by
  subst h
  unfold trammellaw01_same.f
  exact ev_pos rfl (same_l0 l hl 0 (by omega))

theorem set_take (l : List Int) (n : Nat) (v : Int) (h : n < l.length) : (l.set n v).take (n + 1) = l.take n ++ [v] := by
  rw [List.take_succ_eq_append_getElem (by simpa using h)]
  simp [List.take_set_of_le]
theorem val_set_take (l : List Int) (n : Nat) (v : Int) (h : n < l.length) : val ((l.set n v).take (n + 1)) = val (l.take n) + Bp n * v := by
  rw [set_take l n v h, val_snoc, List.length_take, Nat.min_eq_left (by omega)]
theorem val_set_last (l : List Int) (n : Nat) (v : Int) (h : l.length = n + 1) : val (l.set n v) = val (l.take n) + Bp n * v := by
  have := val_set_take l n v (by omega)
  rwa [List.take_of_length_le (by simp; omega)] at this
theorem carry (B v : Int) : B * (v % 4294967296) + 4294967296 * B * (v / 4294967296) = B * v := by
  have h := Int.emod_add_mul_ediv v 4294967296
  have : 4294967296 * B * (v / 4294967296) = B * (4294967296 * (v / 4294967296)) := by grind
  rw [this, ← Int.mul_add, h]
theorem rd_ok {a : List Int} (h : Ok a) (i : Int) : 0 ≤ rd a i ∧ rd a i < 4294967296 := ok_getD h _
theorem val_take_succ_ge (b : List Int) (n : Nat) (h : b.length ≤ n) : val (b.take (n + 1)) = val (b.take n) := by rw [List.take_of_length_le (by omega), List.take_of_length_le h]

theorem add_l0 (a b : List Int) (ha : Ok a) (hb : Ok b) (hla : a.length ≤ 70368744177663) (hba : b.length ≤ a.length) (d : Nat) :
    ∀ (out : List Int) (c : Int) (n : Nat), a.length - n = d → Ok out → out.length = a.length + 1 → n ≤ a.length → 0 ≤ c → c ≤ 1 →
      val (out.take n) + Bp n * c = val (a.take n) + val (b.take n) →
      Ev (fun k => nat_Add.l0 k a b out c (a.length : Int) (n : Int)) (lm (val a + val b)) := by
  induction d with
  | zero =>
    intro out c n hd ho hlo hn hc0 hc1 inv
    have : n = a.length := by omega
    subst this
    have hc : c % 4294967296 = c := by omega
    refine Ev.step (fun _ => rfl) (ev_neg (by omega) (ev_pos (by omega) (ev_pos (by omega) ?_)))
    refine Ev.bind (trim_own_f _ (by simp; omega)) (ev_now ?_)
    have hOk : Ok (out.set ((a.length : Int)).toNat (c % 4294967296)) := ok_set ho _ (by omega) (by omega)
    rw [trim_lm hOk, Int.toNat_natCast, val_set_last out a.length _ hlo, hc, inv, List.take_of_length_le (Nat.le_refl _), List.take_of_length_le hba]
  | succ d ih =>
    intro out c n hd ho hlo hn hc0 hc1 inv
    have h1 := rd_ok ha (n : Int)
    have h2 := rd_ok hb (n : Int)
    refine Ev.step (fun _ => rfl) (ev_pos (by omega) (ev_pos (by omega) (ev_pos (by omega) ?_)))
    rw [w64 (n := (n : Int) + 1) (by omega) (by omega)]
    by_cases hnb : n < b.length
    · refine ev_pos (by omega) (ev_pos (by omega) ?_)
      rw [u64w (n := rd a n) (by omega) (by omega), u64w (n := rd b n) (by omega) (by omega), u64w (n := c + rd a n) (by omega) (by omega), u64w (n := c + rd a n + rd b n) (by omega) (by omega), Int.toNat_natCast]
      have := ih (out.set n ((c + rd a n + rd b n) % 4294967296)) ((c + rd a n + rd b n) / 4294967296) (n + 1) (by omega) (ok_set ho _ (by omega) (by omega)) (by simpa using hlo) (by omega) (by omega) (by omega) (by
        rw [val_set_take out n _ (by omega), val_take_succ a n (by omega), val_take_succ b n hnb, Bp_succ, Int.add_assoc, carry, ← rd_getD, ← rd_getD]
        have : Bp n * (c + rd a n + rd b n) = Bp n * c + Bp n * rd a n + Bp n * rd b n := by grind
        rw [this]; omega)
      simpa using this
    · refine ev_neg (by omega) (ev_pos (by omega) ?_)
      rw [u64w (n := rd a n) (by omega) (by omega), u64w (n := c + rd a n) (by omega) (by omega), Int.toNat_natCast]
      have := ih (out.set n ((c + rd a n) % 4294967296)) ((c + rd a n) / 4294967296) (n + 1) (by omega) (ok_set ho _ (by omega) (by omega)) (by simpa using hlo) (by omega) (by omega) (by omega) (by
        rw [val_set_take out n _ (by omega), val_take_succ a n (by omega), val_take_succ_ge b n (by omega), Bp_succ, Int.add_assoc, carry, ← rd_getD]
        have : Bp n * (c + rd a n) = Bp n * c + Bp n * rd a n := by grind
        rw [this]; omega)
      simpa using this
theorem add_j0 (a b : List Int) (ha : Ok a) (hb : Ok b) (hla : a.length ≤ 70368744177663) (hba : b.length ≤ a.length) : Ev (fun k => nat_Add.j0 k a b) (lm (val a + val b)) := by
  have hw : wrap64 ((a.length : Int) + 1) = (a.length : Int) + 1 := w64 (by omega) (by omega)
  refine Ev.step (fun k => by rw [nat_Add.j0, hw]) ?_
  refine ev_pos (by omega) (ev_pos (by omega) ?_)
  have hz : ((a.length : Int) + 1).toNat = a.length + 1 := by omega
  rw [hz]
  exact add_l0 a b ha hb hla hba a.length _ 0 0 (by omega) (ok_replicate _) (by simp) (by omega) (by omega) (by omega) (by simp [val])
theorem add_f (a b : List Int) (ha : Ok a) (hb : Ok b) (hla : a.length ≤ 70368744177663) (hlb : b.length ≤ 70368744177663) : Ev (fun k => nat_Add.f k a b) (lm (val a + val b)) := by
  unfold nat_Add.f
  by_cases h : (a.length : Int) < (b.length : Int)
  · refine ev_pos h ?_
    rw [Int.add_comm]
    exact add_j0 b a hb ha hlb (by omega)
  · exact ev_neg h (add_j0 a b ha hb hla (by omega))

/-! ### products -/
/-- one row: the limb x of a times b, added at place i -/
theorem val_set_mid (l : List Int) (n : Nat) (v : Int) (h : n < l.length) : val (l.set n v) = val l + Bp n * (v - l.getD n 0) := by
  rw [val_take_drop l n (by omega), val_drop_cons l n h, val_take_drop (l.set n v) n (by simp; omega), List.take_set_of_le (Nat.le_refl _), val_drop_cons (l.set n v) n (by simpa using h)]
  have h1 : (l.set n v).getD n 0 = v := by simp [List.getD, h]
  have h2 : (l.set n v).drop (n + 1) = l.drop (n + 1) := by rw [List.drop_set_of_lt (by omega)]
  rw [h1, h2]
  grind
theorem getD_set_ne (l : List Int) (n m : Nat) (v : Int) (h : n ≠ m) : (l.set n v).getD m 0 = l.getD m 0 := by
  simp [List.getD, List.getElem?_set_ne h]

theorem mulA {P Q c T B x V : Int} (h : P + Q * c = T * V + B * (x * V)) : P + Q * (c - 0) = (T + B * x) * V := by
  rw [Int.sub_zero, h, Int.add_mul, Int.mul_assoc B]
theorem mulB {P Bi Bj c S x y o W v m q Vj : Int} (h : P + Bi * Bj * c = S + Bi * (x * Vj)) (hc : Bi * Bj * m + W * (Bi * Bj) * q = Bi * Bj * v) (hv : c + (x * y + o) = v) :
    P + Bi * Bj * (m - o) + W * (Bi * Bj) * q = S + Bi * (x * (Vj + Bj * y)) := by
  subst hv
  grind
theorem mul_l1 (a b : List Int) (ha : Ok a) (hb : Ok b) (hl : a.length + b.length ≤ 70368744177664) (i : Nat) (hi : i < a.length) (x20 : Int) (R : List Int)
    (next : ∀ out : List Int, Ok out → out.length = a.length + b.length → (∀ j, i + 1 + b.length ≤ j → out.getD j 0 = 0) → val out = val (a.take (i + 1)) * val b → Ev (fun k => nat_Mul.l0 k a b out x20 ((i : Int) + 1)) R)
    (d : Nat) : ∀ (out : List Int) (c : Int) (j : Nat), b.length - j = d → Ok out → out.length = a.length + b.length → j ≤ b.length → 0 ≤ c → c < 4294967296 →
      (∀ m, i + b.length ≤ m → out.getD m 0 = 0) →
      val out + Bp (i + j) * c = val (a.take i) * val b + Bp i * (rd a i * val (b.take j)) →
      Ev (fun k => nat_Mul.l1 k a b out (i : Int) c x20 (i : Int) (b.length : Int) (j : Int)) R := by
  induction d with
  | zero =>
    intro out c j hd ho hlo hj hc0 hc1 hz inv
    have INV := Aside0.mk inv
    clear inv
    have : j = b.length := by omega
    subst this
    have hc : c % 4294967296 = c := by omega
    have hw : wrap64 ((i : Int) + (b.length : Int)) = ((i + b.length : Nat) : Int) := by rw [w64 (by omega) (by omega)]; omega
    refine Ev.step (fun k => by rw [nat_Mul.l1]) ?_
    refine ev_neg (by omega) ?_
    refine ev_pos (by rw [hw]; omega) ?_
    refine ev_pos (by rw [hw]; omega) ?_
    rw [hw, hc, Int.toNat_natCast, w64 (n := (i : Int) + 1) (by omega) (by omega)]
    refine next _ (ok_set ho _ hc0 hc1) (by simpa using hlo) ?_ ?_
    · intro m hm
      rw [getD_set_ne _ _ _ _ (by omega)]
      exact hz m (by omega)
    · rw [val_set_mid out _ c (by omega), hz _ (Nat.le_refl _), val_take_succ a i hi, ← rd_getD]
      have inv := INV.out
      rw [List.take_of_length_le (Nat.le_refl _)] at inv
      exact mulA inv
  | succ d ih =>
    intro out c j hd ho hlo hj hc0 hc1 hz inv
    have INV := Aside0.mk inv
    clear inv
    have hw : wrap64 ((i : Int) + (j : Int)) = ((i + j : Nat) : Int) := by rw [w64 (by omega) (by omega)]; omega
    refine Ev.step (fun k => by rw [nat_Mul.l1]) ?_
    refine ev_pos (by omega) ?_
    refine ev_pos (by omega) ?_
    refine ev_pos (by omega) ?_
    refine ev_pos (by omega) ?_
    refine ev_pos (by omega) ?_
    refine ev_pos (by rw [hw]; omega) ?_
    refine ev_pos (by rw [hw]; omega) ?_
    rw [hw]
    clear hw
    have h1 := rd_ok ha (i : Int)
    have h2 := rd_ok hb (j : Int)
    have h3 := rd_ok ho ((i + j : Nat) : Int)
    have hp0 : 0 ≤ rd a i * rd b j := Int.mul_nonneg h1.1 h2.1
    have hp1 : rd a i * rd b j ≤ 4294967295 * 4294967295 := Int.mul_le_mul (by omega) (by omega) h2.1 (by omega)
    rw [Int.toNat_natCast, w64 (n := (j : Int) + 1) (by omega) (by omega), u64w (n := rd a i) (by omega) (by omega), u64w (n := rd b j) (by omega) (by omega), u64w (n := rd out _) (by omega) (by omega), u64w (n := rd a i * rd b j) (by omega) (by omega)]
    rw [u64w (n := rd a i * rd b j + rd out _) (by omega) (by omega), u64w (n := c + (rd a i * rd b j + rd out _)) (by omega) (by omega)]
    generalize hv : c + (rd a i * rd b j + rd out ((i + j : Nat) : Int)) = v
    have := ih (out.set (i + j) (v % 4294967296)) (v / 4294967296) (j + 1) (by omega) (ok_set ho _ (by omega) (by omega)) (by simpa using hlo) (by omega) (by omega) (by omega)
      (by intro m hm; rw [getD_set_ne _ _ _ _ (by omega)]; exact hz m hm)
      (by
        rw [val_set_mid out _ _ (by omega), val_take_succ b j (by omega), ← rd_getD, ← rd_getD, show i + (j + 1) = (i + j) + 1 from by omega, Bp_succ, Bp_add i j]
        have inv := INV.out
        rw [Bp_add i j] at inv
        exact mulB inv (carry (Bp i * Bp j) v) hv)
    simpa using this
theorem mul_l0 (a b : List Int) (ha : Ok a) (hb : Ok b) (hl : a.length + b.length ≤ 70368744177664) (d : Nat) :
    ∀ (out : List Int) (i : Nat), a.length - i = d → Ok out → out.length = a.length + b.length → i ≤ a.length → (∀ j, i + b.length ≤ j → out.getD j 0 = 0) → val out = val (a.take i) * val b →
      Ev (fun k => nat_Mul.l0 k a b out (a.length : Int) (i : Int)) (lm (val a * val b)) := by
  induction d with
  | zero =>
    intro out i hd ho hlo hi hz inv
    have : i = a.length := by omega
    subst this
    refine Ev.step (fun k => by rw [nat_Mul.l0]) ?_
    refine ev_neg (by omega) ?_
    refine Ev.bind (trim_own_f _ (by omega)) ?_
    refine ev_now ?_
    rw [trim_lm ho, inv, List.take_of_length_le (Nat.le_refl _)]
  | succ d ih =>
    intro out i hd ho hlo hi hz inv
    refine Ev.step (fun k => by rw [nat_Mul.l0]) ?_
    refine ev_pos (by omega) ?_
    refine mul_l1 a b ha hb hl i (by omega) _ _ ?_ b.length out 0 0 (by omega) ho hlo (by omega) (by omega) (by omega) hz (by simp [val, inv])
    intro out2 ho2 hlo2 hz2 inv2
    have := ih out2 (i + 1) (by omega) ho2 hlo2 (by omega) (fun j hj => hz2 j (by omega)) inv2
    simpa using this
theorem mul_f (a b : List Int) (ha : Ok a) (hb : Ok b) (hl : a.length + b.length ≤ 70368744177664) : Ev (fun k => nat_Mul.f k a b) (lm (val a * val b)) := by
  unfold nat_Mul.f
  have h1 := trim_len a
  have h2 := trim_len b
  refine Ev.bind (trim_f a (by omega)) ?_
  refine Ev.bind (trim_f b (by omega)) ?_
  have hw : wrap64 (((trim a).length : Int) + ((trim b).length : Int)) = (((trim a).length + (trim b).length : Nat) : Int) := by rw [w64 (by omega) (by omega)]; omega
  rw [hw]
  refine ev_pos (by omega) ?_
  refine ev_pos (by omega) ?_
  rw [Int.toNat_natCast]
  have := mul_l0 (trim a) (trim b) (trim_ok ha) (trim_ok hb) (by omega) (trim a).length (List.replicate ((trim a).length + (trim b).length) 0) 0 (by omega) (ok_replicate _) (by simp) (by omega)
    (by intro j hj; simp only [List.getD, List.getElem?_replicate]; split <;> rfl) (by rw [val_zeros]; simp [val])
  rw [trim_val, trim_val] at this
  simpa using this

/-! ### order -/
def cmp (a b : Int) : Int := if a < b then -1 else if a = b then 0 else 1
theorem cmp_hi {E x y p q : Int} (hp0 : 0 ≤ p) (hp : p < E) (hq0 : 0 ≤ q) (h : x < y) : p + E * x < q + E * y := by
  have h1 : E * (x + 1) ≤ E * y := Int.mul_le_mul_of_nonneg_left (by omega) (by omega)
  rw [Int.mul_add] at h1
  omega
theorem cmp_l0 (a b : List Int) (ha : Ok a) (hb : Ok b) (hl : a.length = b.length) (hla : a.length ≤ 4611686018427387904) (n : Nat) : n ≤ a.length →
    val (a.drop n) = val (b.drop n) → Ev (fun k => nat_Cmp.l0 k a b ((n : Int) - 1)) (cmp (val a) (val b)) := by
  induction n with
  | zero =>
    intro _ h
    refine Ev.step (fun k => by rw [nat_Cmp.l0]) ?_
    refine ev_neg (by omega) (ev_now ?_)
    simp only [List.drop_zero] at h
    rw [h]; simp [cmp]
  | succ n ih =>
    intro hn h
    have hw : wrap64 (((n + 1 : Nat) : Int) - 1 - 1) = (n : Int) - 1 := by rw [w64 (by omega) (by omega)]; omega
    have hi : ((n + 1 : Nat) : Int) - 1 = (n : Int) := by omega
    rw [hi] at hw ⊢
    refine Ev.step (fun k => by rw [nat_Cmp.l0]) ?_
    refine ev_pos (by omega) ?_
    refine ev_pos (by omega) ?_
    refine ev_pos (by omega) ?_
    refine ev_pos (by omega) ?_
    rw [hw]
    clear hw
    have va := val_drop_cons a n (by omega)
    have vb := val_drop_cons b n (by omega)
    rw [← rd_getD] at va vb
    by_cases e : rd a n = rd b n
    · refine ev_pos e (ih (by omega) (by omega))
    · refine ev_neg e ?_
      have ta := val_take_drop a n (by omega)
      have tb := val_take_drop b n (by omega)
      have la := val_lt (ok_take ha n)
      have lb := val_lt (ok_take hb n)
      have na := val_nonneg (ok_take ha n)
      have nb := val_nonneg (ok_take hb n)
      rw [List.length_take, Nat.min_eq_left (by omega)] at la lb
      by_cases l : rd a n < rd b n
      · refine ev_pos l (ev_now ?_)
        have := cmp_hi na la nb (show val (a.drop n) < val (b.drop n) by omega)
        rw [← ta, ← tb] at this
        simp [cmp, this]
      · refine ev_neg l (ev_now ?_)
        have := cmp_hi nb lb na (show val (b.drop n) < val (a.drop n) by omega)
        rw [← ta, ← tb] at this
        simp only [cmp]
        rw [if_neg (by omega), if_neg (by omega)]
theorem trim_len_lt {a b : List Int} (ha : Ok a) (hb : Ok b) (h : (trim a).length < (trim b).length) : val a < val b := by
  have h1 := val_lt (trim_ok ha)
  have hne : trim b ≠ [] := by intro e; simp [e] at h
  have h2 := nrm_top (trim_ok hb) (trim_nrm b) hne
  have h3 := Bp_le (show (trim a).length ≤ (trim b).length - 1 by omega)
  rw [trim_val] at h1 h2
  omega
theorem cmp_f (a b : List Int) (ha : Ok a) (hb : Ok b) (hla : a.length ≤ 4611686018427387904) (hlb : b.length ≤ 4611686018427387904) : Ev (fun k => nat_Cmp.f k a b) (cmp (val a) (val b)) := by
  unfold nat_Cmp.f
  have h1 := trim_len a
  have h2 := trim_len b
  refine Ev.bind (trim_f a hla) ?_
  refine Ev.bind (trim_f b hlb) ?_
  by_cases e : ((trim a).length : Int) = ((trim b).length : Int)
  · refine ev_pos e ?_
    rw [w64 (by omega) (by omega)]
    have := cmp_l0 (trim a) (trim b) (trim_ok ha) (trim_ok hb) (by omega) (by omega) (trim a).length (Nat.le_refl _) (by
      rw [List.drop_of_length_le (Nat.le_refl _), List.drop_of_length_le (by omega)])
    rwa [trim_val, trim_val] at this
  · refine ev_neg e ?_
    by_cases l : ((trim a).length : Int) < ((trim b).length : Int)
    · refine ev_pos l (ev_now ?_)
      have := trim_len_lt ha hb (by omega)
      simp [cmp, this]
    · refine ev_neg l (ev_now ?_)
      have := trim_len_lt hb ha (by omega)
      simp only [cmp]
      rw [if_neg (by omega), if_neg (by omega)]

/-! ### differences -/
theorem borrow {B v : Int} (h0 : -4294967296 ≤ v) (h1 : v < 4294967296) : B * ((v % 18446744073709551616) % 4294967296) - 4294967296 * B * ((v % 18446744073709551616) / 9223372036854775808) = B * v := by
  have h : (v % 18446744073709551616) % 4294967296 - 4294967296 * ((v % 18446744073709551616) / 9223372036854775808) = v := by omega
  have : B * ((v % 18446744073709551616) % 4294967296) - 4294967296 * B * ((v % 18446744073709551616) / 9223372036854775808) = B * ((v % 18446744073709551616) % 4294967296 - 4294967296 * ((v % 18446744073709551616) / 9223372036854775808)) := by grind
  rw [this, h]
theorem lessA {P Q B c m q v S T x y : Int} (inv : P - B * c = S - T) (hb : B * m - Q * q = B * v) (hv : v = x - c - y) : P + B * m - Q * q = S + B * x - (T + B * y) := by
  subst hv
  grind
theorem u64_def (n : Int) : IntKind.u64.wrap n = n % 18446744073709551616 := rfl
theorem less_l0 (a b : List Int) (ha : Ok a) (hb : Ok b) (hla : a.length ≤ 70368744177663) (hba : b.length ≤ a.length) (hv : val b ≤ val a) (d : Nat) :
    ∀ (out : List Int) (c : Int) (n : Nat), a.length - n = d → Ok out → out.length = a.length → n ≤ a.length → 0 ≤ c → c ≤ 1 →
      val (out.take n) - Bp n * c = val (a.take n) - val (b.take n) →
      Ev (fun k => nat_less.l0 k a b out c (a.length : Int) (n : Int)) (lm (val a - val b)) := by
  induction d with
  | zero =>
    intro out c n hd ho hlo hn hc0 hc1 inv
    have : n = a.length := by omega
    subst this
    refine Ev.step (fun k => by rw [nat_less.l0]) ?_
    refine ev_neg (by omega) ?_
    refine Ev.bind (trim_own_f _ (by omega)) (ev_now ?_)
    rw [trim_lm ho]
    rw [List.take_of_length_le (by omega), List.take_of_length_le (Nat.le_refl _), List.take_of_length_le hba] at inv
    have h1 := val_lt ho
    rw [hlo] at h1
    have h2 := Bp_pos a.length
    rcases (show c = 0 ∨ c = 1 by omega) with rfl | rfl
    · rw [Int.mul_zero] at inv; rw [← inv]; simp
    · rw [Int.mul_one] at inv; omega
  | succ d ih =>
    intro out c n hd ho hlo hn hc0 hc1 inv
    have INV := Aside0.mk inv
    clear inv
    have h1 := rd_ok ha (n : Int)
    have h2 := rd_ok hb (n : Int)
    refine Ev.step (fun k => by rw [nat_less.l0]) ?_
    refine ev_pos (by omega) ?_
    refine ev_pos (by omega) ?_
    refine ev_pos (by omega) ?_
    rw [w64 (n := (n : Int) + 1) (by omega) (by omega)]
    by_cases hnb : n < b.length
    · refine ev_pos (by omega) ?_
      refine ev_pos (by omega) ?_
      have hw : IntKind.u64.wrap (IntKind.u64.wrap (IntKind.u64.wrap (rd a n) - c) - IntKind.u64.wrap (rd b n)) = (rd a n - c - rd b n) % 18446744073709551616 := by
        simp only [u64_def]; omega
      rw [hw, Int.toNat_natCast]
      generalize hv2 : rd a n - c - rd b n = v
      have := ih (out.set n (v % 18446744073709551616 % 4294967296)) (v % 18446744073709551616 / 9223372036854775808) (n + 1) (by omega) (ok_set ho _ (by omega) (by omega)) (by simpa using hlo) (by omega) (by omega) (by omega) (by
        rw [val_set_take out n _ (by omega), val_take_succ a n (by omega), val_take_succ b n hnb, Bp_succ, ← rd_getD, ← rd_getD]
        exact lessA INV.out (borrow (by omega) (by omega)) hv2.symm)
      simpa using this
    · refine ev_neg (by omega) ?_
      refine ev_pos (by omega) ?_
      have hw : IntKind.u64.wrap (IntKind.u64.wrap (rd a n) - c) = (rd a n - c - 0) % 18446744073709551616 := by
        simp only [u64_def]; omega
      rw [hw, Int.toNat_natCast]
      generalize hv2 : rd a n - c - 0 = v
      have := ih (out.set n (v % 18446744073709551616 % 4294967296)) (v % 18446744073709551616 / 9223372036854775808) (n + 1) (by omega) (ok_set ho _ (by omega) (by omega)) (by simpa using hlo) (by omega) (by omega) (by omega) (by
        rw [val_set_take out n _ (by omega), val_take_succ a n (by omega), val_take_succ_ge b n (by omega), Bp_succ, ← rd_getD]
        have := lessA INV.out (borrow (B := Bp n) (v := v) (by omega) (by omega)) hv2.symm
        rwa [Int.mul_zero, Int.add_zero] at this)
      simpa using this
theorem less_f (a b : List Int) (ha : Ok a) (hb : Ok b) (hla : a.length ≤ 70368744177663) (hba : b.length ≤ a.length) (hv : val b ≤ val a) : Ev (fun k => nat_less.f k a b) (lm (val a - val b)) := by
  unfold nat_less.f
  refine ev_pos (by omega) ?_
  refine ev_pos (by omega) ?_
  rw [Int.toNat_natCast]
  exact less_l0 a b ha hb hla hba hv a.length _ 0 0 (by omega) (ok_replicate _) (by simp) (by omega) (by omega) (by omega) (by simp [val])
theorem trim_len_le {a b : List Int} (ha : Ok a) (hb : Ok b) (h : val a ≤ val b) : (trim a).length ≤ (trim b).length := by
  apply Nat.le_of_not_lt; intro h1; have := trim_len_lt hb ha h1; omega
theorem sub_f (a b : List Int) (ha : Ok a) (hb : Ok b) (hla : a.length ≤ 70368744177663) (hlb : b.length ≤ 70368744177663) :
    Ev (fun k => nat_Sub.f k a b) (if val a < val b then ([], 10) else (lm (val a - val b), 0)) := by
  unfold nat_Sub.f
  refine Ev.bind (cmp_f a b ha hb (by omega) (by omega)) ?_
  by_cases h : val a < val b
  · refine ev_pos (by simp [cmp, h]) (ev_now ?_)
    rw [if_pos h]
  · refine ev_neg (by simp only [cmp]; rw [if_neg h]; split <;> omega) ?_
    rw [if_neg h]
    have h1 := trim_len a
    have h2 := trim_len_le hb ha (by omega)
    refine Ev.bind (trim_f a (by omega)) ?_
    refine Ev.bind (trim_f b (by omega)) ?_
    have := less_f (trim a) (trim b) (trim_ok ha) (trim_ok hb) (by omega) h2 (by rw [trim_val, trim_val]; omega)
    rw [trim_val, trim_val] at this
    exact Ev.bind this (ev_now rfl)
end Go.Proofs.Ytnlkafjhbjlhaaa.PA
