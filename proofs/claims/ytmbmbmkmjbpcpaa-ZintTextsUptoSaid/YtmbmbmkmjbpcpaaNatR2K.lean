/- The reference's Cmp, Add, less, Sub as numbers; for limbs that are 32-bit words, of lengths below the bounds that each lemma names. -/
import Derived.Test.YtmbmbmkmjbpcpaaNatR1K
import Derived.Test.YtmbmbmkmjbpcpaaNatA2K
import Derived.Test.YtmbmbmkmjbpcpaaPAx3K
import Derived.Test.YtmbmbmkmjbpcpaaPAx4K
namespace Go.Proofs.Ytmbmbmkmjbpcpaa.PA
open Go Go.RowKit Go.Proofs.YtmbmbmkmjbpcpaaW.PrintWords Go.Proofs.YtmbmbmkmjbpcpaaW.PrintLast Go.Proofs.YtmbmbmkmjbpcpaaW.PrintMore
open Go.Proofs.Ytmbmbmkmjbpcpaa.Nums
theorem rlimb {l : List Int} (hl : Ok l) (n : Nat) : trammelref01_limb.f l (n : Int) = some (l.getD n 0) := by
  unfold trammelref01_limb.f
  have h := ok_getD hl n
  by_cases c : n < l.length
  · rw [if_pos (by omega), if_pos (by omega), rd_getD, u64w h.1 (by omega)]
  · rw [if_neg (by omega)]; simp [List.getD, Nat.le_of_not_lt c]
theorem rmost (a b : Nat) : trammelref01_most.f (a : Int) (b : Int) = some ((max a b : Nat) : Int) := by
  unfold trammelref01_most.f
  by_cases h : (a : Int) > (b : Int)
  · rw [if_pos h]; congr 1; omega
  · rw [if_neg h]; congr 1; omega
/-! ### the reference: sums, differences -/
theorem addB {P B c m q v x y S T : Int} (inv : P + B * c = S + T) (hc : B * m + 4294967296 * B * q = B * v) (hv : v = c + x + y) : P + B * m + 4294967296 * B * q = S + B * x + (T + B * y) := by
  subst hv; grind
theorem radd_l0 (a b : List Int) (ha : Ok a) (hb : Ok b) (hla : a.length ≤ 35184372088830) (hlb : b.length ≤ 35184372088830) (d : Nat) :
    ∀ (out : List Int) (c : Int) (n : Nat), max a.length b.length - n = d → Ok out → out.length = n → n ≤ max a.length b.length → 0 ≤ c → c ≤ 1 →
      val out + Bp n * c = val (a.take n) + val (b.take n) →
      Ev (fun k => trammelref01_Add.l0 k a b out c (n : Int)) (lm (val a + val b)) := by
  induction d with
  | zero =>
    intro out c n hd ho hlo hn hc0 hc1 inv
    have hc : c % 4294967296 = c := by omega
    refine Ev.step (fun k => by rw [trammelref01_Add.l0, rmost, Option.bind_some]) ?_
    refine ev_neg (by omega) ?_
    refine ev_pos (by omega) ?_
    have hOk : Ok (out ++ [c % 4294967296]) := ok_append.2 ⟨ho, by intro x hx; simp at hx; omega⟩
    refine Ev.bind (rnorm_f _ (by simp; omega)) (ev_now ?_)
    rw [trim_lm hOk, val_snoc, hlo, hc, inv, List.take_of_length_le (by omega), List.take_of_length_le (by omega)]
  | succ d ih =>
    intro out c n hd ho hlo hn hc0 hc1 inv
    have INV := Aside0.mk inv
    clear inv
    have h1 := ok_getD ha n
    have h2 := ok_getD hb n
    refine Ev.step (fun k => by rw [trammelref01_Add.l0, rmost, Option.bind_some, rlimb ha, rlimb hb, Option.bind_some, Option.bind_some]) ?_
    refine ev_pos (by omega) ?_
    refine ev_pos (by omega) ?_
    rw [u64w (n := c + a.getD n 0) (by omega) (by omega), u64w (n := c + a.getD n 0 + b.getD n 0) (by omega) (by omega), tmod32 (by omega), tdiv32 (by omega), w64 (n := (n : Int) + 1) (by omega) (by omega)]
    generalize hv : c + a.getD n 0 + b.getD n 0 = v
    rw [u64w (n := v / 4294967296) (by omega) (by omega), Int.emod_emod_of_dvd _ (by decide : (4294967296 : Int) ∣ 4294967296)]
    have := ih (out ++ [v % 4294967296]) (v / 4294967296) (n + 1) (by omega) (ok_append.2 ⟨ho, by intro x hx; simp at hx; omega⟩) (by simp [hlo]) (by omega) (by omega) (by omega) (by
      rw [val_snoc, hlo, val_take_any a n, val_take_any b n, Bp_succ]
      exact addB INV.out (carry _ v) hv.symm)
    simpa using this
theorem radd_f (a b : List Int) (ha : Ok a) (hb : Ok b) (hla : a.length ≤ 35184372088830) (hlb : b.length ≤ 35184372088830) : Ev (fun k => trammelref01_Add.f k a b) (lm (val a + val b)) :=
  radd_l0 a b ha hb hla hlb _ [] 0 0 rfl ok_nil rfl (by omega) (by omega) (by omega) (by simp [val])
end Go.Proofs.Ytmbmbmkmjbpcpaa.PA

