/- The contracts of layer 1's functions, of the program and of the reference, as numbers: for magnitudes of at most 10000000 words. -/
import Derived.Test.YtmbmbmkmjbpcpaaZkitK
import Derived.Test.YtmbmbmkmjbpcpaaNatRootK
import Derived.Test.YtmbmbmkmjbpcpaaNatTextK
import Derived.Test.YtmbmbmkmjbpcpaaPAx1K
import Derived.Test.YtmbmbmkmjbpcpaaPAx13K
import Derived.Test.YtmbmbmkmjbpcpaaPAx14K
import Derived.Test.YtmbmbmkmjbpcpaaPAx15K
import Derived.Test.YtmbmbmkmjbpcpaaPAx16K
import Derived.Test.YtmbmbmkmjbpcpaaPAx17K
import Derived.Test.YtmbmbmkmjbpcpaaPAx2K
import Derived.Test.YtmbmbmkmjbpcpaaPAx3K
import Derived.Test.YtmbmbmkmjbpcpaaPAx4K
import Derived.Test.YtmbmbmkmjbpcpaaPAx5K
import Derived.Test.YtmbmbmkmjbpcpaaPAx6K
import Derived.Test.YtmbmbmkmjbpcpaaPAx8K
import Derived.Test.YtmbmbmkmjbpcpaaPAx9K
namespace Go.Proofs.Ytmbmbmkmjbpcpaa.PA
open Go Go.Proofs.Ytmbmbmkmjbpcpaa.Nums Go.RowKit Go.Proofs.YtmbmbmkmjbpcpaaW.PrintWords Go.Proofs.YtmbmbmkmjbpcpaaW.PrintLast Go.Proofs.YtmbmbmkmjbpcpaaW.PrintMore
set_option linter.unusedVariables false
/-- a slice of words that stands for the number x -/
def MagV (w : World) (v : Value) (x : Int) : Prop := ∃ l, Rd w v l ∧ Ok l ∧ l.length ≤ 10000000 ∧ val l = x
def MagI (w0 w : World) (v : Value) (x : Int) : Prop := ∃ l, RdI w0 w v l ∧ Ok l ∧ l.length ≤ 10000000 ∧ val l = x
/-- a call's end: the number x in a row of its own -/
def ResM (w : World) (x : Int) (e : Ending) (w' : World) : Prop := ∃ v, e = .returned v ∧ Kd.R (Kd.int .u32) 68 w' w.heap.size (fun _ => True) v (lm x) ∧ Below w.heap.size w w'
theorem MagI.now {w0 w : World} {v : Value} {x : Int} (h : MagI w0 w v x) : MagV w v x := by
  obtain ⟨l, h1, h2⟩ := h
  exact ⟨l, h1.now, h2⟩
theorem MagI.keep {w0 w w' : World} {v : Value} {x : Int} (h : MagI w0 w v x) (k : Keeps w0 w w') : MagI w0 w' v x := by
  obtain ⟨l, h1, h2⟩ := h
  exact ⟨l, h1.keep k, h2⟩
theorem MagV.came {w : World} {v : Value} {x : Int} (h : MagV w v x) : MagI w w v x := by
  obtain ⟨l, h1, h2⟩ := h
  exact ⟨l, h1.came, h2⟩
theorem MagV.nonneg {w : World} {v : Value} {x : Int} (h : MagV w v x) : 0 ≤ x := by
  obtain ⟨l, -, h2, -, rfl⟩ := h
  exact val_nonneg h2
theorem MagV.of_row {w w' : World} {v : Value} {x : Int} (h : Kd.R (Kd.int .u32) 68 w' w.heap.size (fun _ => True) v (lm x)) (hx : 0 ≤ x) (hl : (lm x).length ≤ 10000000) : MagV w' v x := ⟨lm x, Rd.of_row h, lm_ok x, hl, lm_val hx⟩
theorem MagV.below {w w' : World} {v : Value} {x : Int} (h : MagV w v x) (hb : Below w.heap.size w w') : MagV w' v x := by
  obtain ⟨l, h1, h2⟩ := h
  exact ⟨l, h1.below hb, h2⟩
theorem Rd.nil (w : World) : Rd w (.slice none 0 0) [] := ⟨none, 0, rfl, Nat.le_refl _, Kd.C_nil _ _⟩
theorem MagV.nil (w : World) : MagV w (.slice none 0 0) 0 := ⟨[], Rd.nil w, ok_nil, by simp, val_nil⟩
theorem nat_Add.sem {w : World} {v1 v2 : Value} {x y : Int} (m1 : MagV w v1 x) (m2 : MagV w v2 y) : Calls Try.prog 70 #[v1, v2] w (ResM w (x + y)) := by
  obtain ⟨l1, ⟨A1, c1, rfl, h1, g1⟩, o1, b1, rfl⟩ := m1
  obtain ⟨l2, ⟨A2, c2, rfl, h2, g2⟩, o2, b2, rfl⟩ := m2
  obtain ⟨k, e⟩ := (add_f l1 l2 o1 o2 (by omega) (by omega)).rounds
  exact (nat_Add.calls k (fun k_ => k_ < w.heap.size) A1 c1 l1 (fun k_ => k_ < w.heap.size) A2 c2 l2 _ w (Kd.V_mk h1 (Kd.C_F (Kd.heap_int .u32) g1)) (Kd.V_mk h2 (Kd.C_F (Kd.heap_int .u32) g2)) e).mono fun e w' ⟨v, he, hr, hb⟩ => ⟨v, he, Kd.R_mono hr (fun _ _ => trivial), hb⟩
theorem nat_Mul.sem {w : World} {v1 v2 : Value} {x y : Int} (m1 : MagV w v1 x) (m2 : MagV w v2 y) : Calls Try.prog 77 #[v1, v2] w (ResM w (x * y)) := by
  obtain ⟨l1, ⟨A1, c1, rfl, h1, g1⟩, o1, b1, rfl⟩ := m1
  obtain ⟨l2, ⟨A2, c2, rfl, h2, g2⟩, o2, b2, rfl⟩ := m2
  obtain ⟨k, e⟩ := (mul_f l1 l2 o1 o2 (by omega)).rounds
  exact (nat_Mul.calls k A1 c1 l1 A2 c2 l2 _ w g1 h1 g2 h2 e).mono fun e w' ⟨v, he, hr, hb⟩ => ⟨v, he, Kd.R_mono hr (fun _ _ => trivial), hb⟩
theorem nat_Bits.sem {w : World} {v1 : Value} {x : Int} (m1 : MagV w v1 x) : Calls Try.prog 81 #[v1] w fun e w' => e = .returned (.int .i64 ((bl x.toNat : Nat) : Int)) ∧ Below w.heap.size w w' := by
  obtain ⟨l1, ⟨A1, c1, rfl, h1, g1⟩, o1, b1, rfl⟩ := m1
  obtain ⟨k, e⟩ := (bits_f l1 o1 (by omega)).rounds
  exact (nat_Bits.calls k A1 c1 l1 _ w g1 h1 e).mono fun e w' ⟨he, hb⟩ => ⟨he, hb⟩
theorem nat_Text.sem {w : World} {v1 : Value} {x : Int} (m1 : MagV w v1 x) : Calls Try.prog 82 #[v1] w fun e w' => e = .returned (.string (textOf x)) ∧ Below w.heap.size w w' := by
  obtain ⟨l1, ⟨A1, c1, rfl, h1, g1⟩, o1, b1, rfl⟩ := m1
  obtain ⟨k, e⟩ := (text_f l1 o1 (by omega)).rounds
  exact nat_Text.calls k A1 c1 l1 _ w g1 h1 e
theorem trammelref01_Text.sem {w : World} {v1 : Value} {x : Int} (m1 : MagV w v1 x) : Calls Try.prog 83 #[v1] w fun e w' => e = .returned (.string (textOf x)) ∧ Below w.heap.size w w' := by
  obtain ⟨l1, ⟨A1, c1, rfl, h1, g1⟩, o1, b1, rfl⟩ := m1
  obtain ⟨k, e⟩ := (rtext_f l1 o1 (by omega)).rounds
  exact trammelref01_Text.calls k A1 c1 l1 _ w g1 h1 e
theorem trammelref01_Norm.sem {w : World} {v1 : Value} {x : Int} (m1 : MagV w v1 x) : Calls Try.prog 80 #[v1] w (ResM w x) := by
  obtain ⟨l1, ⟨A1, c1, rfl, h1, g1⟩, o1, b1, rfl⟩ := m1
  obtain ⟨k, e⟩ := (rnorm_f l1 (by omega)).rounds
  rw [trim_lm o1] at e
  exact trammelref01_Norm.calls k A1 c1 l1 _ w g1 h1 e
end Go.Proofs.Ytmbmbmkmjbpcpaa.PA

