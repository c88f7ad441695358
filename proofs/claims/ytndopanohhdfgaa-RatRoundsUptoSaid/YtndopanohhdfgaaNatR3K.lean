/- The reference's product as numbers. -/
import Derived.Test.YtndopanohhdfgaaNatR1K
import Derived.Test.YtndopanohhdfgaaPAx12K
namespace Go.Proofs.Ytndopanohhdfgaa.PA
open Go Go.RowKit Go.Proofs.YtndopanohhdfgaaW.PrintWords Go.Proofs.YtndopanohhdfgaaW.PrintLast Go.Proofs.YtndopanohhdfgaaW.PrintMore
open Go.Proofs.Ytndopanohhdfgaa.Nums

/-! ### the reference: products -/
theorem mulC {P Bi Bj c S x y o W v m q Vj : Int} (h : P + Bi * Bj * c = S + Bi * (x * Vj)) (hc : Bi * Bj * m + W * (Bi * Bj) * q = Bi * Bj * v) (hv : c + o + x * y = v) :
    P + Bi * Bj * (m - o) + W * (Bi * Bj) * q = S + Bi * (x * (Vj + Bj * y)) := by
  subst hv
  grind
theorem rmul_l1 (a b : List Int) (ha : Ok a) (hb : Ok b) (hl : a.length + b.length ≤ 35184372088831) (i : Nat) (hi : i < a.length) (R : List Int)
    (next : ∀ out : List Int, Ok out → out.length = a.length + b.length → (∀ j, i + 1 + b.length ≤ j → out.getD j 0 = 0) → val out = val (a.take (i + 1)) * val b → Ev (fun k => trammelref01_Mul.l0 k a b out ((i : Int) + 1)) R)
    (d : Nat) : ∀ (out : List Int) (c : Int) (j : Nat), b.length - j = d → Ok out → out.length = a.length + b.length → j ≤ b.length → 0 ≤ c → c < 4294967296 →
      (∀ m, i + b.length ≤ m → out.getD m 0 = 0) →
      val out + Bp (i + j) * c = val (a.take i) * val b + Bp i * (rd a i * val (b.take j)) →
      Ev (fun k => trammelref01_Mul.l1 k a b out (i : Int) c (j : Int)) R := by
  induction d with
  | zero =>
    intro out c j hd ho hlo hj hc0 hc1 hz inv
    have INV := Aside0.mk inv
    clear inv
    have : j = b.length := by omega
    subst this
    have hc : c % 4294967296 = c := by omega
    have hw : wrap64 ((i : Int) + (b.length : Int)) = ((i + b.length : Nat) : Int) := by rw [w64 (by omega) (by omega)]; omega
    refine Ev.step (fun k => by rw [trammelref01_Mul.l1]) ?_
    refine ev_neg (by omega) ?_
    refine ev_pos (by rw [hw]; omega) ?_
    refine ev_pos (by rw [hw]; omega) ?_
    rw [hw, hc, Int.toNat_natCast, w64 (n := (i : Int) + 1) (by omega) (by omega)]
    refine next _ (ok_set ho _ hc0 hc1) (by simpa using hlo) ?_ ?_
    · intro m hm
      rw [getD_set_ne _ _ _ _ (by omega)]
      exact hz m (by omega)
    · rw [val_set_mid out _ c (by omega), hz _ (Nat.le_refl _), val_take_succ a i hi, ← rd_getD]
      have inv := INV.out
      rw [List.take_of_length_le (Nat.le_refl _)] at inv
      exact mulA inv
  | succ d ih =>
    intro out c j hd ho hlo hj hc0 hc1 hz inv
    have INV := Aside0.mk inv
    clear inv
    have hw : wrap64 ((i : Int) + (j : Int)) = ((i + j : Nat) : Int) := by rw [w64 (by omega) (by omega)]; omega
    refine Ev.step (fun k => by rw [trammelref01_Mul.l1]) ?_
    refine ev_pos (by omega) ?_
    refine ev_pos (by rw [hw]; omega) ?_
    refine ev_pos (by rw [hw]; omega) ?_
    refine ev_pos (by omega) ?_
    refine ev_pos (by omega) ?_
    refine ev_pos (by omega) ?_
    rw [hw]
    clear hw
    have h1 := rd_ok ha (i : Int)
    have h2 := rd_ok hb (j : Int)
    have h3 := rd_ok ho ((i + j : Nat) : Int)
    have hp0 : 0 ≤ rd a i * rd b j := Int.mul_nonneg h1.1 h2.1
    have hp1 : rd a i * rd b j ≤ 4294967295 * 4294967295 := Int.mul_le_mul (by omega) (by omega) h2.1 (by omega)
    rw [Int.toNat_natCast, w64 (n := (j : Int) + 1) (by omega) (by omega), u64w (n := rd a i) (by omega) (by omega), u64w (n := rd b j) (by omega) (by omega), u64w (n := rd out _) (by omega) (by omega), u64w (n := rd a i * rd b j) (by omega) (by omega)]
    rw [u64w (n := c + rd out _) (by omega) (by omega), u64w (n := c + rd out ((i + j : Nat) : Int) + rd a i * rd b j) (by omega) (by omega), tmod32 (by omega), tdiv32 (by omega)]
    generalize hv : c + rd out ((i + j : Nat) : Int) + rd a i * rd b j = v
    rw [u64w (n := v / 4294967296) (by omega) (by omega), Int.emod_emod_of_dvd _ (by decide : (4294967296 : Int) ∣ 4294967296)]
    have := ih (out.set (i + j) (v % 4294967296)) (v / 4294967296) (j + 1) (by omega) (ok_set ho _ (by omega) (by omega)) (by simpa using hlo) (by omega) (by omega) (by omega)
      (by intro m hm; rw [getD_set_ne _ _ _ _ (by omega)]; exact hz m hm)
      (by
        rw [val_set_mid out _ _ (by omega), val_take_succ b j (by omega), ← rd_getD, ← rd_getD, show i + (j + 1) = (i + j) + 1 from by omega, Bp_succ, Bp_add i j]
        have inv := INV.out
        rw [Bp_add i j] at inv
        exact mulC inv (carry (Bp i * Bp j) v) hv)
    simpa using this
theorem rmul_l0 (a b : List Int) (ha : Ok a) (hb : Ok b) (hl : a.length + b.length ≤ 35184372088831) (d : Nat) :
    ∀ (out : List Int) (i : Nat), a.length - i = d → Ok out → out.length = a.length + b.length → i ≤ a.length → (∀ j, i + b.length ≤ j → out.getD j 0 = 0) → val out = val (a.take i) * val b →
      Ev (fun k => trammelref01_Mul.l0 k a b out (i : Int)) (lm (val a * val b)) := by
  induction d with
  | zero =>
    intro out i hd ho hlo hi hz inv
    have : i = a.length := by omega
    subst this
    refine Ev.step (fun k => by rw [trammelref01_Mul.l0]) ?_
    refine ev_neg (by omega) ?_
    refine Ev.bind (rnorm_f _ (by omega)) (ev_now ?_)
    rw [trim_lm ho, inv, List.take_of_length_le (Nat.le_refl _)]
  | succ d ih =>
    intro out i hd ho hlo hi hz inv
    refine Ev.step (fun k => by rw [trammelref01_Mul.l0]) ?_
    refine ev_pos (by omega) ?_
    refine rmul_l1 a b ha hb hl i (by omega) _ ?_ b.length out 0 0 (by omega) ho hlo (by omega) (by omega) (by omega) hz (by simp [val, inv])
    intro out2 ho2 hlo2 hz2 inv2
    have := ih out2 (i + 1) (by omega) ho2 hlo2 (by omega) (fun j hj => hz2 j (by omega)) inv2
    simpa using this
theorem rmul_f (a b : List Int) (ha : Ok a) (hb : Ok b) (hl : a.length + b.length ≤ 35184372088831) : Ev (fun k => trammelref01_Mul.f k a b) (lm (val a * val b)) := by
  unfold trammelref01_Mul.f
  have hw : wrap64 ((a.length : Int) + (b.length : Int)) = ((a.length + b.length : Nat) : Int) := by rw [w64 (by omega) (by omega)]; omega
  rw [hw]
  refine ev_pos (by omega) ?_
  refine ev_pos (by omega) ?_
  rw [Int.toNat_natCast]
  have := rmul_l0 a b ha hb (by omega) a.length (List.replicate (a.length + b.length) 0) 0 (by omega) (ok_replicate _) (by simp) (by omega)
    (by intro j hj; simp only [List.getD, List.getElem?_replicate]; split <;> rfl) (by rw [val_zeros]; simp [val])
  simpa using this
end Go.Proofs.Ytndopanohhdfgaa.PA

