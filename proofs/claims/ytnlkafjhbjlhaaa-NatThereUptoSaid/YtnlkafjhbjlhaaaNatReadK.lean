/- The number of a text, or the place of its first fault: what is answered, and that the reference answers so. -/
import Derived.Test.YtnlkafjhbjlhaaaNatPowAK
import Derived.Test.YtnlkafjhbjlhaaaNatR2K
import Derived.Test.YtnlkafjhbjlhaaaNatR3K
import Derived.Test.YtnlkafjhbjlhaaaPAx15K
namespace Go.Proofs.Ytnlkafjhbjlhaaa.PA
open Go Go.RowKit Go.Proofs.YtnlkafjhbjlhaaaW.PrintWords Go.Proofs.YtnlkafjhbjlhaaaW.PrintLast Go.Proofs.YtnlkafjhbjlhaaaW.PrintMore
open Go.Proofs.Ytnlkafjhbjlhaaa.Nums
set_option linter.unusedVariables false
/-- no digit at place i, or a digit behind a nought that stands first -/
def badAt (s : ByteArray) (i : Nat) : Bool := decide (bt s i < 48) || decide (bt s i > 57) || (i == 1 && bt s 0 == 48)
def scan (s : ByteArray) : Nat → Nat → Option Nat
  | 0, _ => none
  | d + 1, i => if badAt s i then some i else scan s d (i + 1)
/-- the number of the first i digits -/
def numv (s : ByteArray) : Nat → Int
  | 0 => 0
  | i + 1 => 10 * numv s i + (bt s i - 48)
def scanR (s : ByteArray) (o : Option Nat) : List Int × Int × Int := match o with
  | some i => ([], i, 4)
  | none => (lm (numv s s.size), 0, 0)
def readR (s : ByteArray) : List Int × Int × Int := if s.size > 65536 then ([], 0, 2) else if s.size = 0 then ([], 0, 4) else scanR s (scan s s.size 0)
theorem numv_lt {s : ByteArray} {i : Nat} (h : numv s i < 10 ^ i) (hb : badAt s i = false) (h0 : 0 ≤ numv s i) : 0 ≤ numv s (i + 1) ∧ numv s (i + 1) < 10 ^ (i + 1) := by
  unfold badAt at hb
  simp only [Bool.or_eq_false_iff, decide_eq_false_iff_not] at hb
  have e : numv s (i + 1) = 10 * numv s i + (bt s i - 48) := rfl
  rw [e, Int.pow_succ]
  omega
theorem ten_Bp (i : Nat) : (10 : Int) ^ i ≤ Bp i := by
  have h : (10 : Nat) ^ i ≤ 4294967296 ^ i := Nat.pow_le_pow_left (by decide) i
  unfold Bp
  have e1 : (10 : Int) ^ i = ((10 ^ i : Nat) : Int) := by rw [Int.natCast_pow]; rfl
  have e2 : (4294967296 : Int) ^ i = ((4294967296 ^ i : Nat) : Int) := by rw [Int.natCast_pow]; rfl
  omega
theorem numv_len {s : ByteArray} {i : Nat} (h : numv s i < 10 ^ i) (h0 : 0 ≤ numv s i) : (lm (numv s i)).length ≤ i := lm_len_le h0 (by have := ten_Bp i; omega)
theorem rread_l0 (s : ByteArray) (hs : s.size ≤ 65536) (d : Nat) : ∀ i : Nat, s.size - i = d → i ≤ s.size → 0 ≤ numv s i → numv s i < 10 ^ i → Ev (fun k => trammelref01_Read.l0 k s (lm (numv s i)) (i : Int)) (scanR s (scan s d i)) := by
  induction d with
  | zero =>
    intro i hd hi h0 h1
    have : i = s.size := by omega
    subst this
    refine Ev.step (fun k => by rw [trammelref01_Read.l0]) ?_
    exact ev_neg (by omega) (Ev.now _)
  | succ d ih =>
    intro i hd hi h0 h1
    have hbt := bt_range s i
    have bad : ∀ b, badAt s i = b → Ev (fun k => trammelref01_Read.j1 k s (lm (numv s i)) (i : Int) b) (scanR s (scan s (d + 1) i)) := by
      intro b hb
      refine Ev.step (fun k => by rw [trammelref01_Read.j1]) ?_
      unfold scan
      rw [hb]
      cases b with
      | true => exact ev_pos rfl (Ev.now _)
      | false =>
        have hl := numv_len h1 h0
        have hn := numv_lt h1 hb h0
        have hb2 := hb
        unfold badAt at hb2
        simp only [Bool.or_eq_false_iff, decide_eq_false_iff_not] at hb2
        refine ev_neg (by decide) ?_
        refine Ev.bind (rmul_f (lm (numv s i)) [10] (lm_ok _) (ok_cons.mpr ⟨by omega, ok_nil⟩) (by simp; omega)) ?_
        rw [lm_val h0, val_single]
        have hl2 := lm_len_le (z := numv s i * 10) (n := i + 1) (by omega) (by have := ten_Bp i; rw [Bp_succ]; omega)
        have e : (bt s i - 48) % 256 = bt s i - 48 := by omega
        refine ev_pos (by omega) (ev_pos (by omega) ?_)
        rw [e]
        refine Ev.bind (radd_f (lm (numv s i * 10)) [bt s i - 48] (lm_ok _) (ok_cons.mpr ⟨by omega, ok_nil⟩) (by omega) (by simp)) ?_
        rw [lm_val (by omega), val_single, w64 (by omega) (by omega)]
        have e2 : numv s i * 10 + (bt s i - 48) = numv s (i + 1) := by show _ = 10 * numv s i + (bt s i - 48); omega
        rw [e2]
        exact ih (i + 1) (by omega) (by omega) hn.1 hn.2
    refine Ev.step (fun k => by rw [trammelref01_Read.l0]) ?_
    refine ev_pos (by omega) (ev_pos (by omega) ?_)
    by_cases c1 : bt s i < 48
    · exact ev_pos c1 (bad true (by unfold badAt; simp [c1]))
    · refine ev_neg c1 ?_
      by_cases c2 : bt s i > 57
      · exact ev_pos c2 (bad true (by unfold badAt; simp [c2]))
      · refine ev_neg c2 ?_
        have e : badAt s i = (i == 1 && bt s 0 == 48) := by unfold badAt; simp [c1, c2]
        by_cases c3 : (i : Int) = 1
        · have : i = 1 := by omega
          subst this
          exact ev_pos c3 (ev_pos (by omega) (bad _ (by rw [e]; simp)))
        · refine ev_neg c3 (bad false ?_)
          rw [e]
          have : (i == 1) = false := beq_eq_false_iff_ne.mpr (by omega)
          rw [this]; rfl
theorem rread_f (s : ByteArray) : Ev (fun k => trammelref01_Read.f k s) (readR s) := by
  unfold trammelref01_Read.f readR
  by_cases h1 : s.size > 65536
  · rw [if_pos h1]
    exact ev_pos (by omega) (Ev.now _)
  · rw [if_neg h1]
    refine ev_neg (by omega) ?_
    by_cases h2 : s.size = 0
    · rw [if_pos h2]
      exact ev_pos (by omega) (Ev.now _)
    · rw [if_neg h2]
      refine ev_neg (by omega) ?_
      have := rread_l0 s (by omega) s.size 0 (by omega) (by omega) (by simp [numv]) (by simp [numv])
      rw [show numv s 0 = 0 from rfl, lm_zero] at this
      simpa using this
end Go.Proofs.Ytnlkafjhbjlhaaa.PA
