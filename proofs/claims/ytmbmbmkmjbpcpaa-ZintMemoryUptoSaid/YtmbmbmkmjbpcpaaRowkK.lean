/- Rows of words in memory: where they lie, what a store leaves of them; no program's code is named. -/
import Derived.Test.YtmbmbmkmjbpcpaaNumsK
import Derived.Test.YtmbmbmkmjbpcpaaPAx0K
namespace Go.Proofs.Ytmbmbmkmjbpcpaa.PA
open Go Go.Proofs.Ytmbmbmkmjbpcpaa.Nums Go.RowKit Go.Proofs.YtmbmbmkmjbpcpaaW.PrintWords Go.Proofs.YtmbmbmkmjbpcpaaW.PrintLast Go.Proofs.YtmbmbmkmjbpcpaaW.PrintMore
set_option linter.unusedVariables false
set_option linter.unusedSimpArgs false
theorem C_ints {w : World} {a : Option Addr} {l : List Int} (hr : ReadsInt w .u32 a l.length l) : Kd.C (Kd.int .u32) w a l.length l := Kd.C_of_reads (d := (0 : Int)) (h1 := fun _ => rfl) hr
/-- a row that lies below B is none of the rows from B on -/
theorem row_lt {w : World} {base : Nat} {v : Value} {xs : List Int} (h : Kd.R (Kd.int .u32) 68 w base (fun _ => True) v xs) {B : Nat} (hB : w.heap.size ≤ B) : Kd.R (Kd.int .u32) 68 w base (fun k => k < B) v xs :=
  Kd.R_mono (Kd.R_bound h) (fun k hk => by have := hk.2.2.1; omega)
theorem row_ge {w : World} {base : Nat} {ok : Nat → Prop} {v : Value} {xs : List Int} (h : Kd.R (Kd.int .u32) 68 w base ok v xs) : Kd.R (Kd.int .u32) 68 w base (fun k => base ≤ k) v xs :=
  Kd.R_mono (Kd.R_bound h) (fun _ hk => hk.2.1)
theorem grown_drewN (w : World) (n : Nat) (row : Option Nat) : w.grownBy (w.drewN n) row := ⟨rfl, rfl, rfl, Nat.le_refl _, fun _ _ _ => rfl⟩
/-- a row's cell at a place, and what a store there leaves -/
theorem cell_at {wr : World} {B : Nat} {ok : Nat → Prop} {g len c : Nat} {ys : List Int} (h : Kd.R (Kd.int .u32) 68 wr B ok (.slice (some ⟨g, 0, none⟩) len c) ys) (n : Nat) (hn : n < len) :
    wr.cell? ⟨g, n, none⟩ = some (.int .u32 (ys.getD n 0)) ∧ wr.frozen? ⟨g, n, none⟩ = false ∧
      ∀ x, Kd.R (Kd.int .u32) 68 (wr.setCell ⟨g, n, none⟩ (.int .u32 x)) B ok (.slice (some ⟨g, 0, none⟩) len c) (ys.set n x) ∧ wr.grownBy (wr.setCell ⟨g, n, none⟩ (.int .u32 x)) (some g) := by
  have hc := Kd.R_celln 0 h (n : Int) (by omega) (by omega)
  rw [Int.toNat_natCast] at hc
  refine ⟨?_, hc.2, fun x => ?_⟩
  · rw [hc.1]; simp [rdOf]
  · have hp := Kd.R_putg h (n : Int) x
    rw [Int.toNat_natCast] at hp
    exact hp
theorem far_of {wr : World} {base B g L cap : Nat} {ok : Nat → Prop} (hok : ∀ k, ok k → B ≤ k) {zs : List Int} (h : Kd.R (Kd.int .u32) 68 wr base ok (.slice (some ⟨g, 0, none⟩) L cap) zs) : ∀ k, k < B → some k ≠ some g := by
  intro k hk e
  have : B ≤ g := hok g (h.1 g rfl)
  injection e with e
  omega
theorem up_of {wr : World} {base B g L cap : Nat} {ok : Nat → Prop} (hok : ∀ k, ok k → k < B) {zs : List Int} (h : Kd.R (Kd.int .u32) 68 wr base ok (.slice (some ⟨g, 0, none⟩) L cap) zs) : ∀ k, B ≤ k → some k ≠ some g := by
  intro k hk e
  have : g < B := hok g (h.1 g rfl)
  injection e with e
  omega
theorem up_of2 {wr : World} {B base g L cap : Nat} {A : Nat} {zs : List Int} (h : Kd.R (Kd.int .u32) 68 wr base (fun k => B ≤ k) (.slice (some ⟨g, 0, none⟩) L cap) zs) : ∀ k, (A ≤ k ∧ k < B) → some k ≠ some g := by
  intro k hk e
  have : B ≤ g := h.1 g rfl
  injection e with e
  omega
end Go.Proofs.Ytmbmbmkmjbpcpaa.PA

