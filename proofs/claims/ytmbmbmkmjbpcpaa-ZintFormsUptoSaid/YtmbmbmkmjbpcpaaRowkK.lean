/- Rows of words in memory: where they lie, what a store leaves of them; no program's code is named. -/
import Derived.Test.YtmbmbmkmjbpcpaaNumsK
import Derived.Test.YtmbmbmkmjbpcpaaPAx0K
namespace Go.Proofs.Ytmbmbmkmjbpcpaa.PA
open Go Go.Proofs.Ytmbmbmkmjbpcpaa.Nums Go.RowKit Go.Proofs.YtmbmbmkmjbpcpaaW.PrintWords Go.Proofs.YtmbmbmkmjbpcpaaW.PrintLast Go.Proofs.YtmbmbmkmjbpcpaaW.PrintMore
set_option linter.unusedVariables false
set_option linter.unusedSimpArgs false
theorem C_ints {w : World} {a : Option Addr} {l : List Int} (hr : ReadsInt w .u32 a l.length l) : Kd.C (Kd.int .u32) w a l.length l := Kd.C_of_reads (d := (0 : Int)) (h1 := fun _ => rfl) hr
theorem below_size0 {w w1 : World} (h : Below w.heap.size w w1) : w.heap.size ≤ w1.heap.size := h.size
theorem drawn_below {w w1 : World} (h : Drawn0 w w1) : Below w.heap.size w w1 := h.below
/-- one round of 'for i := range s { s[i] = v }': the cell is there, and what a store leaves -/
theorem fill_step {wr : World} {B : Nat} {A : Option Addr} {len c : Nat} {ys : List Int} (h : Kd.R (Kd.int .u32) 68 wr B (fun _ => True) (.slice A len c) ys) (n : Nat) (hn : n < len) :
    ∃ g, A = some ⟨g, 0, none⟩ ∧ B ≤ g ∧ (∃ v, wr.cell? ⟨g, n, none⟩ = some (.int .u32 v)) ∧ wr.frozen? ⟨g, n, none⟩ = false ∧
      ∀ x, Kd.R (Kd.int .u32) 68 (wr.setCell ⟨g, n, none⟩ (.int .u32 x)) B (fun _ => True) (.slice A len c) (ys.set n x) ∧ wr.grownBy (wr.setCell ⟨g, n, none⟩ (.int .u32 x)) (some g) := by
  have hl := (Kd.R_reads' h).1
  obtain ⟨g, cap, he, hb, _⟩ := Kd.R_form h (by omega)
  injection he with e1 e2 e3
  subst e1
  have hc := Kd.R_celln 0 h (n : Int) (by omega) (by omega)
  rw [Int.toNat_natCast] at hc
  refine ⟨g, rfl, hb, ⟨_, hc.1⟩, hc.2, fun x => ?_⟩
  have hp := Kd.R_putg h (n : Int) x
  rw [Int.toNat_natCast] at hp
  exact hp
/-- a row that lies below B is none of the rows from B on -/
theorem row_lt {w : World} {base : Nat} {v : Value} {xs : List Int} (h : Kd.R (Kd.int .u32) 68 w base (fun _ => True) v xs) {B : Nat} (hB : w.heap.size ≤ B) : Kd.R (Kd.int .u32) 68 w base (fun k => k < B) v xs :=
  Kd.R_mono (Kd.R_bound h) (fun k hk => by have := hk.2.2.1; omega)
theorem row_any {w : World} {base : Nat} {ok : Nat → Prop} {v : Value} {xs : List Int} (h : Kd.R (Kd.int .u32) 68 w base ok v xs) : Kd.R (Kd.int .u32) 68 w base (fun _ => True) v xs := Kd.R_mono h (fun _ _ => trivial)
theorem row_grown {w w1 : World} {base B g : Nat} {v : Value} {xs : List Int} (h : Kd.R (Kd.int .u32) 68 w base (fun k => k < B) v xs) (hg : w.grownBy w1 (some g)) (hb : B ≤ g) : Kd.R (Kd.int .u32) 68 w1 base (fun k => k < B) v xs :=
  Kd.R_grown h hg (fun k hk e => by injection e with e; omega)
theorem below_fill {w wr : World} {g n : Nat} {x : Int} {B : Nat} (h : Below w.heap.size w wr) (hg : B ≤ g) (hB : w.heap.size ≤ B) : Below w.heap.size w (wr.setCell ⟨g, n, none⟩ (.int .u32 x)) := below_set h (by omega)
/-- as fill_step, the row's block being one that 'ok' lets -/
theorem fill_ok {wr : World} {B : Nat} {ok : Nat → Prop} {A : Option Addr} {len c : Nat} {ys : List Int} (h : Kd.R (Kd.int .u32) 68 wr B ok (.slice A len c) ys) (n : Nat) (hn : n < len) :
    ∃ g, A = some ⟨g, 0, none⟩ ∧ (B ≤ g ∧ ok g) ∧ (∃ v, wr.cell? ⟨g, n, none⟩ = some (.int .u32 v)) ∧ wr.frozen? ⟨g, n, none⟩ = false ∧
      ∀ x, Kd.R (Kd.int .u32) 68 (wr.setCell ⟨g, n, none⟩ (.int .u32 x)) B ok (.slice A len c) (ys.set n x) ∧ wr.grownBy (wr.setCell ⟨g, n, none⟩ (.int .u32 x)) (some g) := by
  have hl := (Kd.R_reads' h).1
  obtain ⟨g, cap, he, hb, _⟩ := Kd.R_form h (by omega)
  injection he with e1 e2 e3
  subst e1
  have hc := Kd.R_celln 0 h (n : Int) (by omega) (by omega)
  rw [Int.toNat_natCast] at hc
  refine ⟨g, rfl, ⟨hb, h.1 g rfl⟩, ⟨_, hc.1⟩, hc.2, fun x => ?_⟩
  have hp := Kd.R_putg h (n : Int) x
  rw [Int.toNat_natCast] at hp
  exact hp
theorem row_ge {w : World} {base : Nat} {ok : Nat → Prop} {v : Value} {xs : List Int} (h : Kd.R (Kd.int .u32) 68 w base ok v xs) : Kd.R (Kd.int .u32) 68 w base (fun k => base ≤ k) v xs :=
  Kd.R_mono (Kd.R_bound h) (fun _ hk => hk.2.1)
theorem row_up {w w1 : World} {base B g : Nat} {v : Value} {xs : List Int} (h : Kd.R (Kd.int .u32) 68 w base (fun k => B ≤ k) v xs) (hg : w.grownBy w1 (some g)) (hb : g < B) : Kd.R (Kd.int .u32) 68 w1 base (fun k => B ≤ k) v xs :=
  Kd.R_grown h hg (fun k hk e => by injection e with e; omega)
theorem grown_drewN (w : World) (n : Nat) (row : Option Nat) : w.grownBy (w.drewN n) row := ⟨rfl, rfl, rfl, Nat.le_refl _, fun _ _ _ => rfl⟩
theorem grown_drew (w : World) (row : Option Nat) : w.grownBy w.drew row := ⟨rfl, rfl, rfl, Nat.le_refl _, fun _ _ _ => rfl⟩
/-- a row's cell at a place, and what a store there leaves -/
theorem cell_at {wr : World} {B : Nat} {ok : Nat → Prop} {g len c : Nat} {ys : List Int} (h : Kd.R (Kd.int .u32) 68 wr B ok (.slice (some ⟨g, 0, none⟩) len c) ys) (n : Nat) (hn : n < len) :
    wr.cell? ⟨g, n, none⟩ = some (.int .u32 (ys.getD n 0)) ∧ wr.frozen? ⟨g, n, none⟩ = false ∧
      ∀ x, Kd.R (Kd.int .u32) 68 (wr.setCell ⟨g, n, none⟩ (.int .u32 x)) B ok (.slice (some ⟨g, 0, none⟩) len c) (ys.set n x) ∧ wr.grownBy (wr.setCell ⟨g, n, none⟩ (.int .u32 x)) (some g) := by
  have hc := Kd.R_celln 0 h (n : Int) (by omega) (by omega)
  rw [Int.toNat_natCast] at hc
  refine ⟨?_, hc.2, fun x => ?_⟩
  · rw [hc.1]; simp [rdOf]
  · have hp := Kd.R_putg h (n : Int) x
    rw [Int.toNat_natCast] at hp
    exact hp
theorem far_of {wr : World} {base B g L cap : Nat} {ok : Nat → Prop} (hok : ∀ k, ok k → B ≤ k) {zs : List Int} (h : Kd.R (Kd.int .u32) 68 wr base ok (.slice (some ⟨g, 0, none⟩) L cap) zs) : ∀ k, k < B → some k ≠ some g := by
  intro k hk e
  have : B ≤ g := hok g (h.1 g rfl)
  injection e with e
  omega
theorem up_of {wr : World} {base B g L cap : Nat} {ok : Nat → Prop} (hok : ∀ k, ok k → k < B) {zs : List Int} (h : Kd.R (Kd.int .u32) 68 wr base ok (.slice (some ⟨g, 0, none⟩) L cap) zs) : ∀ k, B ≤ k → some k ≠ some g := by
  intro k hk e
  have : g < B := hok g (h.1 g rfl)
  injection e with e
  omega
theorem up_of2 {wr : World} {B base g L cap : Nat} {A : Nat} {zs : List Int} (h : Kd.R (Kd.int .u32) 68 wr base (fun k => B ≤ k) (.slice (some ⟨g, 0, none⟩) L cap) zs) : ∀ k, (A ≤ k ∧ k < B) → some k ≠ some g := by
  intro k hk e
  have : B ≤ g := h.1 g rfl
  injection e with e
  omega
end Go.Proofs.Ytmbmbmkmjbpcpaa.PA
