/- A number times m and c, in place (nat.grow). -/
import Derived.Test.YtnlkafjhbjlhaaaNatAK
import Derived.Test.YtnlkafjhbjlhaaaPAx13K
namespace Go.Proofs.Ytnlkafjhbjlhaaa.PA
open Go Go.RowKit Go.Proofs.YtnlkafjhbjlhaaaW.PrintWords Go.Proofs.YtnlkafjhbjlhaaaW.PrintLast Go.Proofs.YtnlkafjhbjlhaaaW.PrintMore
open Go.Proofs.Ytnlkafjhbjlhaaa.Nums
set_option linter.unusedVariables false
theorem growA {P T B c o q w M C W : Int} (inv : P + B * c = T * M + C) (hv : W = c + o * M) (hW : B * w + 4294967296 * B * q = B * W) : P + B * w + 4294967296 * B * q = (T + B * o) * M + C := by subst hv; grind
theorem grow_l0 (a : List Int) (ha : Ok a) (hl : a.length ≤ 1000000000) (m c : Int) (hm0 : 0 ≤ m) (hm1 : m < 4294967296) (hc0 : 0 ≤ c) (hc1 : c < 4294967296) (d : Nat) : ∀ (zs : List Int) (cy : Int) (i : Nat), a.length - i = d → i ≤ a.length → Ok zs → zs.length = a.length → 0 ≤ cy → cy < 4294967296 →
    (∀ j, i ≤ j → zs.getD j 0 = a.getD j 0) → val (zs.take i) + Bp i * cy = val (a.take i) * m + c →
    ∃ r, Ok r ∧ val r = val a * m + c ∧ r.length ≤ a.length + 1 ∧ Ev (fun k => nat_grow.l0 k zs m cy (a.length : Int) (i : Int)) r := by
  induction d with
  | zero =>
    intro zs cy i hd hi oz hlz h0 h1 hz inv
    have : i = a.length := by omega
    subst this
    rw [List.take_of_length_le (by omega), List.take_of_length_le (Nat.le_refl _)] at inv
    by_cases hc : cy > 0
    · have e : cy % 4294967296 = cy := by omega
      refine ⟨zs ++ [cy], ok_append.mpr ⟨oz, ok_cons.mpr ⟨⟨h0, h1⟩, ok_nil⟩⟩, by rw [val_snoc, hlz]; exact inv, by simp [hlz], ?_⟩
      refine Ev.step (fun k => by rw [nat_grow.l0]) ?_
      refine ev_neg (by omega) (ev_pos hc (ev_pos (by omega) (ev_now ?_)))
      rw [e]
    · have : cy = 0 := by omega
      subst this
      refine ⟨zs, oz, by rw [← inv]; simp, by omega, ?_⟩
      refine Ev.step (fun k => by rw [nat_grow.l0]) ?_
      exact ev_neg (by omega) (ev_neg hc (Ev.now _))
  | succ d ih =>
    intro zs cy i hd hi oz hlz h0 h1 hz inv
    have INV := Aside0.mk inv
    clear inv
    have hx := ok_getD oz i
    have hzi := hz i (Nat.le_refl _)
    have hx2 := hx
    rw [hzi] at hx2
    have hp0 : 0 ≤ zs.getD i 0 * m := Int.mul_nonneg hx.1 hm0
    have hp1 : zs.getD i 0 * m ≤ 4294967295 * 4294967295 := Int.mul_le_mul (by omega) (by omega) hm0 (by omega)
    obtain ⟨W, hW⟩ : ∃ W, W = cy + zs.getD i 0 * m := ⟨_, rfl⟩
    have w0 : 0 ≤ W := by omega
    have w1 : W < 18446744073709551616 := by omega
    obtain ⟨r, hr, hv, hlr, e⟩ := ih (zs.set i (W % 4294967296)) (W / 4294967296) (i + 1) (by omega) (by omega) (ok_set oz _ (by omega) (by omega)) (by simpa using hlz) (by omega) (by omega)
      (fun j hj => by rw [getD_set_ne _ _ _ _ (by omega)]; exact hz j (by omega)) (by
        rw [val_set_take _ _ _ (by omega), Bp_succ, val_take_succ a i (by omega), ← hzi]
        exact growA INV.out hW (carry (Bp i) W))
    refine ⟨r, hr, hv, hlr, ?_⟩
    refine Ev.step (fun k => by rw [nat_grow.l0]) ?_
    refine ev_pos (by omega) (ev_pos (by omega) (ev_pos (by omega) ?_))
    rw [rd_getD, u64w (n := zs.getD i 0) (by omega) (by omega), u64w (n := m) (by omega) (by omega), u64w (n := zs.getD i 0 * m) hp0 (by omega), ← hW, u64w w0 w1, Int.toNat_natCast, w64 (by omega) (by omega)]
    simpa using e
theorem grow_f (a : List Int) (ha : Ok a) (hl : a.length ≤ 1000000000) (m c : Int) (hm0 : 0 ≤ m) (hm1 : m < 4294967296) (hc0 : 0 ≤ c) (hc1 : c < 4294967296) :
    ∃ r, Ok r ∧ val r = val a * m + c ∧ r.length ≤ a.length + 1 ∧ Ev (fun k => nat_grow.f k a m c) r := by
  obtain ⟨r, hr, hv, hlr, e⟩ := grow_l0 a ha hl m c hm0 hm1 hc0 hc1 a.length a c 0 (by omega) (by omega) ha rfl hc0 hc1 (fun _ _ => rfl) (by simp [val_nil, Bp_zero])
  refine ⟨r, hr, hv, hlr, ?_⟩
  unfold nat_grow.f
  rw [u64w (n := c) hc0 (by omega)]
  simpa using e
end Go.Proofs.Ytnlkafjhbjlhaaa.PA
