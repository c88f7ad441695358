/- The reference's Cmp, Add, less, Sub as numbers; for limbs that are 32-bit words, of lengths below the bounds that each lemma names. -/
import Derived.Test.YtmbmbmkmjbpcpaaNatR1K
import Derived.Test.YtmbmbmkmjbpcpaaNatA2K
import Derived.Test.YtmbmbmkmjbpcpaaPAx3K
import Derived.Test.YtmbmbmkmjbpcpaaPAx4K
namespace Go.Proofs.Ytmbmbmkmjbpcpaa.PA
open Go Go.RowKit Go.Proofs.YtmbmbmkmjbpcpaaW.PrintWords Go.Proofs.YtmbmbmkmjbpcpaaW.PrintLast Go.Proofs.YtmbmbmkmjbpcpaaW.PrintMore
open Go.Proofs.Ytmbmbmkmjbpcpaa.Nums
theorem rlimb {l : List Int} (hl : Ok l) (n : Nat) : trammelref01_limb.f l (n : Int) = some (l.getD n 0) := by
  unfold trammelref01_limb.f
  have h := ok_getD hl n
  by_cases c : n < l.length
  · rw [if_pos (by omega), if_pos (by omega), rd_getD, u64w h.1 (by omega)]
  · rw [if_neg (by omega)]; simp [List.getD, Nat.le_of_not_lt c]
theorem rmost (a b : Nat) : trammelref01_most.f (a : Int) (b : Int) = some ((max a b : Nat) : Int) := by
  unfold trammelref01_most.f
  by_cases h : (a : Int) > (b : Int)
  · rw [if_pos h]; congr 1; omega
  · rw [if_neg h]; congr 1; omega
theorem rcmp_l0 (a b : List Int) (ha : Ok a) (hb : Ok b) (n : Nat) : n ≤ 4611686018427387904 → val (a.drop n) = val (b.drop n) →
    Ev (fun k => trammelref01_Cmp.l0 k a b ((n : Int) - 1)) (cmp (val a) (val b)) := by
  induction n with
  | zero =>
    intro _ h
    refine Ev.step (fun k => by rw [trammelref01_Cmp.l0]) ?_
    refine ev_neg (by omega) (ev_now ?_)
    simp only [List.drop_zero] at h
    rw [h]; simp [cmp]
  | succ n ih =>
    intro hn h
    have hw : wrap64 (((n + 1 : Nat) : Int) - 1 - 1) = (n : Int) - 1 := by rw [w64 (by omega) (by omega)]; omega
    have hi : ((n + 1 : Nat) : Int) - 1 = (n : Int) := by omega
    rw [hi] at hw ⊢
    refine Ev.step (fun k => by rw [trammelref01_Cmp.l0, hw, rlimb ha, rlimb hb, Option.bind_some, Option.bind_some]) ?_
    clear hw
    refine ev_pos (by omega) ?_
    have va := val_drop_any a n
    have vb := val_drop_any b n
    have ta := val_split a n
    have tb := val_split b n
    have la := take_lt ha n
    have lb := take_lt hb n
    have na := val_nonneg (ok_take ha n)
    have nb := val_nonneg (ok_take hb n)
    by_cases l : a.getD n 0 < b.getD n 0
    · refine ev_pos l (ev_now ?_)
      have := cmp_hi na la nb (show val (a.drop n) < val (b.drop n) by omega)
      rw [← ta, ← tb] at this
      simp [cmp, this]
    · refine ev_neg l ?_
      by_cases g : a.getD n 0 > b.getD n 0
      · refine ev_pos g (ev_now ?_)
        have := cmp_hi nb lb na (show val (b.drop n) < val (a.drop n) by omega)
        rw [← ta, ← tb] at this
        simp only [cmp]
        rw [if_neg (by omega), if_neg (by omega)]
      · exact ev_neg g (ih (by omega) (by omega))
theorem rcmp_f (a b : List Int) (ha : Ok a) (hb : Ok b) (hla : a.length ≤ 4611686018427387904) (hlb : b.length ≤ 4611686018427387904) : Ev (fun k => trammelref01_Cmp.f k a b) (cmp (val a) (val b)) := by
  unfold trammelref01_Cmp.f
  rw [rmost]
  simp only [Option.bind_some]
  rw [w64 (by omega) (by omega)]
  exact rcmp_l0 a b ha hb (max a.length b.length) (by omega) (by rw [List.drop_of_length_le (by omega), List.drop_of_length_le (by omega)])

/-! ### the reference: sums, differences -/
theorem addB {P B c m q v x y S T : Int} (inv : P + B * c = S + T) (hc : B * m + 4294967296 * B * q = B * v) (hv : v = c + x + y) : P + B * m + 4294967296 * B * q = S + B * x + (T + B * y) := by
  subst hv; grind
theorem radd_l0 (a b : List Int) (ha : Ok a) (hb : Ok b) (hla : a.length ≤ 35184372088830) (hlb : b.length ≤ 35184372088830) (d : Nat) :
    ∀ (out : List Int) (c : Int) (n : Nat), max a.length b.length - n = d → Ok out → out.length = n → n ≤ max a.length b.length → 0 ≤ c → c ≤ 1 →
      val out + Bp n * c = val (a.take n) + val (b.take n) →
      Ev (fun k => trammelref01_Add.l0 k a b out c (n : Int)) (lm (val a + val b)) := by
  induction d with
  | zero =>
    intro out c n hd ho hlo hn hc0 hc1 inv
    have hc : c % 4294967296 = c := by omega
    refine Ev.step (fun k => by rw [trammelref01_Add.l0, rmost, Option.bind_some]) ?_
    refine ev_neg (by omega) ?_
    refine ev_pos (by omega) ?_
    have hOk : Ok (out ++ [c % 4294967296]) := ok_append.2 ⟨ho, by intro x hx; simp at hx; omega⟩
    refine Ev.bind (rnorm_f _ (by simp; omega)) (ev_now ?_)
    rw [trim_lm hOk, val_snoc, hlo, hc, inv, List.take_of_length_le (by omega), List.take_of_length_le (by omega)]
  | succ d ih =>
    intro out c n hd ho hlo hn hc0 hc1 inv
    have INV := Aside0.mk inv
    clear inv
    have h1 := ok_getD ha n
    have h2 := ok_getD hb n
    refine Ev.step (fun k => by rw [trammelref01_Add.l0, rmost, Option.bind_some, rlimb ha, rlimb hb, Option.bind_some, Option.bind_some]) ?_
    refine ev_pos (by omega) ?_
    refine ev_pos (by omega) ?_
    rw [u64w (n := c + a.getD n 0) (by omega) (by omega), u64w (n := c + a.getD n 0 + b.getD n 0) (by omega) (by omega), tmod32 (by omega), tdiv32 (by omega), w64 (n := (n : Int) + 1) (by omega) (by omega)]
    generalize hv : c + a.getD n 0 + b.getD n 0 = v
    rw [u64w (n := v / 4294967296) (by omega) (by omega), Int.emod_emod_of_dvd _ (by decide : (4294967296 : Int) ∣ 4294967296)]
    have := ih (out ++ [v % 4294967296]) (v / 4294967296) (n + 1) (by omega) (ok_append.2 ⟨ho, by intro x hx; simp at hx; omega⟩) (by simp [hlo]) (by omega) (by omega) (by omega) (by
      rw [val_snoc, hlo, val_take_any a n, val_take_any b n, Bp_succ]
      exact addB INV.out (carry _ v) hv.symm)
    simpa using this
theorem radd_f (a b : List Int) (ha : Ok a) (hb : Ok b) (hla : a.length ≤ 35184372088830) (hlb : b.length ≤ 35184372088830) : Ev (fun k => trammelref01_Add.f k a b) (lm (val a + val b)) :=
  radd_l0 a b ha hb hla hlb _ [] 0 0 rfl ok_nil rfl (by omega) (by omega) (by omega) (by simp [val])
theorem lessB {P B c m q v x y S T : Int} (inv : P - B * c = S - T) (hm : m = v + 4294967296 * q) (hv : v = x - (y + c)) : P + B * m - 4294967296 * B * q = S + B * x - (T + B * y) := by
  subst hv; subst hm; grind
theorem rless_l0 (a b : List Int) (ha : Ok a) (hb : Ok b) (hla : a.length ≤ 35184372088830) (hv : val b ≤ val a) (d : Nat) :
    ∀ (out : List Int) (c : Int) (n : Nat), a.length - n = d → Ok out → out.length = n → n ≤ a.length → 0 ≤ c → c ≤ 1 →
      val out - Bp n * c = val (a.take n) - val (b.take n) →
      Ev (fun k => trammelref01_less.l0 k a b out c (n : Int)) (lm (val a - val b)) := by
  induction d with
  | zero =>
    intro out c n hd ho hlo hn hc0 hc1 inv
    have : n = a.length := by omega
    subst this
    refine Ev.step (fun k => by rw [trammelref01_less.l0]) ?_
    refine ev_neg (by omega) ?_
    refine Ev.bind (rnorm_f _ (by omega)) (ev_now ?_)
    rw [trim_lm ho]
    have hs := val_split b a.length
    rw [List.take_of_length_le (Nat.le_refl _)] at inv
    have h1 := val_lt ho
    rw [hlo] at h1
    have h0 := val_nonneg ho
    have h2 := Bp_pos a.length
    have h3 := val_nonneg (ok_drop hb a.length)
    have h5 := val_nonneg (ok_take hb a.length)
    have h6 := val_lt ha
    have h4 : val (b.drop a.length) = 0 := by
      apply Int.le_antisymm _ h3
      apply Int.le_of_not_gt
      intro h
      have : Bp a.length * 1 ≤ Bp a.length * val (b.drop a.length) := Int.mul_le_mul_of_nonneg_left (by omega) (by omega)
      omega
    rw [h4, Int.mul_zero, Int.add_zero] at hs
    rw [← hs] at inv
    rcases (show c = 0 ∨ c = 1 by omega) with rfl | rfl
    · rw [Int.mul_zero] at inv; rw [← inv]; simp
    · rw [Int.mul_one] at inv; omega
  | succ d ih =>
    intro out c n hd ho hlo hn hc0 hc1 inv
    have INV := Aside0.mk inv
    clear inv
    have h1 := ok_getD ha n
    have h2 := ok_getD hb n
    have hu : IntKind.u64.wrap (b.getD n 0 + c) = b.getD n 0 + c := u64w (by omega) (by omega)
    refine Ev.step (fun k => by rw [trammelref01_less.l0, rlimb ha, rlimb hb, Option.bind_some, Option.bind_some, hu]) ?_
    refine ev_pos (by omega) ?_
    rw [w64 (n := (n : Int) + 1) (by omega) (by omega)]
    by_cases l : a.getD n 0 < b.getD n 0 + c
    · refine ev_pos l ?_
      refine ev_pos (by omega) ?_
      rw [u64w (n := a.getD n 0 + 4294967296) (by omega) (by omega), u64w (by omega) (by omega)]
      generalize hv2 : a.getD n 0 + 4294967296 - (b.getD n 0 + c) = v
      have he : v % 4294967296 = v := by omega
      rw [he]
      have := ih (out ++ [v]) 1 (n + 1) (by omega) (ok_append.2 ⟨ho, by intro x hx; simp at hx; omega⟩) (by simp [hlo]) (by omega) (by omega) (by omega) (by
        rw [val_snoc, hlo, val_take_any a n, val_take_any b n, Bp_succ]
        exact lessB INV.out (v := a.getD n 0 - (b.getD n 0 + c)) (by omega) rfl)
      simpa using this
    · refine ev_neg l ?_
      refine ev_pos (by omega) ?_
      rw [u64w (by omega) (by omega)]
      generalize hv2 : a.getD n 0 - (b.getD n 0 + c) = v
      have he : v % 4294967296 = v := by omega
      rw [he]
      have := ih (out ++ [v]) 0 (n + 1) (by omega) (ok_append.2 ⟨ho, by intro x hx; simp at hx; omega⟩) (by simp [hlo]) (by omega) (by omega) (by omega) (by
        rw [val_snoc, hlo, val_take_any a n, val_take_any b n, Bp_succ]
        exact lessB INV.out (v := v) (by omega) hv2.symm)
      simpa using this
theorem rless_f (a b : List Int) (ha : Ok a) (hb : Ok b) (hla : a.length ≤ 35184372088830) (hv : val b ≤ val a) : Ev (fun k => trammelref01_less.f k a b) (lm (val a - val b)) :=
  rless_l0 a b ha hb hla hv a.length [] 0 0 (by omega) ok_nil rfl (by omega) (by omega) (by omega) (by simp [val])
theorem rsub_f (a b : List Int) (ha : Ok a) (hb : Ok b) (hla : a.length ≤ 35184372088830) (hlb : b.length ≤ 35184372088830) :
    Ev (fun k => trammelref01_Sub.f k a b) (if val a < val b then ([], 10) else (lm (val a - val b), 0)) := by
  unfold trammelref01_Sub.f
  refine Ev.bind (rcmp_f a b ha hb (by omega) (by omega)) ?_
  by_cases h : val a < val b
  · refine ev_pos (by simp [cmp, h]) (ev_now ?_)
    rw [if_pos h]
  · refine ev_neg (by simp only [cmp]; rw [if_neg h]; split <;> omega) ?_
    rw [if_neg h]
    exact Ev.bind (rless_f a b ha hb hla (by omega)) (ev_now rfl)
end Go.Proofs.Ytmbmbmkmjbpcpaa.PA

