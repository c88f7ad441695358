/- NatNames: the walks of what it calls, at the arguments that it gives. -/
import Derived.Test.YtjbaonlhmpcicaaDoorProg
import Derived.WalkKit
import Derived.Below
import Derived.LoopN
import Derived.Outline
namespace Go.Proofs.YtjbaonlhmpcicaaDoor
open Go Go.RowKit
set_option linter.unusedVariables false
set_option linter.unusedSimpArgs false
abbrev rowV (g : Nat) : Value := .slice (some ⟨g, 0, none⟩) 1 1
abbrev nilV : Value := .slice none 0 0
theorem trim1 (w : World) (g : Nat) (x : Int) (hc : w.cell? ⟨g, 0, none⟩ = some (.int .u32 x)) (hx : x ≠ 0) : Calls Tryd.prog 9 #[rowV g] w fun e w' => e = .returned (rowV g) ∧ w' = w := by
  go_enter Tryd.func9, Tryd.ntmps9
  go_wp2
  refine wp_loop_once ?_
  go_wp2
  go_ret
  exact ⟨rfl, rfl⟩
theorem trim0 (w : World) : Calls Tryd.prog 9 #[nilV] w fun e w' => e = .returned nilV ∧ w' = w := by
  go_enter Tryd.func9, Tryd.ntmps9
  go_wp2
  refine wp_loop_once ?_
  go_wp2
  go_ret
  exact ⟨rfl, rfl⟩
theorem trimA (w : World) (v : Value) (hv : v = nilV ∨ ∃ g x, v = rowV g ∧ w.cell? ⟨g, 0, none⟩ = some (.int .u32 x) ∧ x ≠ 0) : Calls Tryd.prog 9 #[v] w fun e w' => e = .returned v ∧ w' = w := by
  rcases hv with rfl | ⟨g, x, rfl, hc, hx⟩
  · exact trim0 w
  · exact trim1 w g x hc hx
theorem small4 (w : World) : Calls Tryd.prog 20 #[.int .i64 4] w fun e w' => e = .returned (.string ⟨#[52]⟩) ∧ w' = w := by
  go_enter Tryd.func20, Tryd.ntmps20
  go_wp2
  go_ret
  exact ⟨rfl, rfl⟩
theorem format4 (w : World) : Calls Tryd.prog 19 #[.int .i64 4, .int .i64 10] w fun e w' => e = .returned (.string ⟨#[52]⟩) ∧ w' = w := by
  go_enter Tryd.func19, Tryd.ntmps19
  go_wp2_with (go_at_call 20; refine (small4 _).mono ?_; rintro e w' ⟨rfl, rfl⟩)
  go_ret
  exact ⟨rfl, rfl⟩
theorem itoa4 (w : World) : Calls Tryd.prog 18 #[.int .i64 4] w fun e w' => e = .returned (.string ⟨#[52]⟩) ∧ w' = w := by
  go_enter Tryd.func18, Tryd.ntmps18
  go_wp2_with (go_at_call 19; refine (format4 _).mono ?_; rintro e w' ⟨rfl, rfl⟩)
  go_ret
  exact ⟨rfl, rfl⟩
theorem sitoa4 (w : World) : Calls Tryd.prog 16 #[.int .i64 4] w fun e w' => e = .returned (.string ⟨#[52]⟩) ∧ w' = w := by
  go_enter Tryd.func16, Tryd.ntmps16
  go_wp2_with (go_at_call 18; refine (itoa4 _).mono ?_; rintro e w' ⟨rfl, rfl⟩)
  go_ret
  exact ⟨rfl, rfl⟩
theorem error4 (w : World) : Calls Tryd.prog 6 #[.int .i64 4] w fun e w' => e = .returned (.string ⟨#[101, 114, 114, 111, 114, 32, 52]⟩) ∧ w' = w := by
  go_enter Tryd.func6, Tryd.ntmps6
  go_wp2_with (go_at_call 16; refine (sitoa4 _).mono ?_; rintro e w' ⟨rfl, rfl⟩)
  go_ret
  exact ⟨rfl, rfl⟩
set_option maxHeartbeats 800000 in
set_option maxRecDepth 100000 in
theorem cmp12 (w : World) (g h : Nat) (hg : w.cell? ⟨g, 0, none⟩ = some (.int .u32 1)) (hh : w.cell? ⟨h, 0, none⟩ = some (.int .u32 2)) : Calls Tryd.prog 7 #[rowV g, rowV h] w fun e w' => e = .returned (.int .i64 (-1)) ∧ w' = w.drew.drew := by
  go_enter Tryd.func7, Tryd.ntmps7
  go_wp2_with (go_at_call 9; refine (trimA _ _ (.inr (by first | exact ⟨g, 1, rfl, hg, by decide⟩ | exact ⟨h, 2, rfl, hh, by decide⟩))).mono ?_; rintro e w' ⟨rfl, rfl⟩)
  refine wp_loop_once ?_
  go_wp2
  go_region
  go_wp2
  go_region
  go_wp2
  go_ret
  exact ⟨rfl, rfl⟩
theorem sub12 (w : World) (g h : Nat) (hg : w.cell? ⟨g, 0, none⟩ = some (.int .u32 1)) (hh : w.cell? ⟨h, 0, none⟩ = some (.int .u32 2)) : Calls Tryd.prog 4 #[rowV g, rowV h] w fun e w' => e = .returned (.tuple #[nilV, .int .i64 10]) ∧ w' = w.drew.drew := by
  go_enter Tryd.func4, Tryd.ntmps4
  go_wp2_with (go_at_call 7; refine (cmp12 _ _ _ hg hh).mono ?_; rintro e w' ⟨rfl, rfl⟩)
  refine bodyPost_ret (v := .tuple #[nilV, .int .i64 10]) ?_ rfl ⟨rfl, rfl⟩
  unfold results
  go_simp
set_option maxHeartbeats 800000 in
set_option maxRecDepth 100000 in
theorem div0 (w : World) (g : Nat) (hg : w.cell? ⟨g, 0, none⟩ = some (.int .u32 1)) : Calls Tryd.prog 5 #[rowV g, nilV] w fun e w' => e = .returned (.tuple #[nilV, nilV, .int .i64 11]) ∧ w' = w := by
  go_enter Tryd.func5, Tryd.ntmps5
  go_wp2_with (go_at_call 9; refine (trimA _ _ (by first | exact .inl rfl | exact .inr ⟨g, 1, rfl, hg, by decide⟩)).mono ?_; rintro e w' ⟨rfl, rfl⟩)
  refine bodyPost_ret (v := .tuple #[nilV, nilV, .int .i64 11]) ?_ rfl ⟨rfl, rfl⟩
  unfold results
  go_simp
set_option maxHeartbeats 1600000 in
set_option maxRecDepth 100000 in
theorem law (w : World) : Calls Tryd.prog 3 #[] w fun e w' => e = .returned (.bool true) ∧ Below w.heap.size w w' := by
  go_enter Tryd.func3, Tryd.ntmps3
  have c1 : ((w.alloc (.cells #[.int .u32 1] 26)).alloc (.cells #[.int .u32 2] 26)).cell? ⟨w.heap.size, 0, none⟩ = some (.int .u32 1) := by simp
  have c2 : ((w.alloc (.cells #[.int .u32 1] 26)).alloc (.cells #[.int .u32 2] 26)).cell? ⟨w.heap.size + 1, 0, none⟩ = some (.int .u32 2) := by simp
  have c4 : (((w.alloc (.cells #[.int .u32 1] 26)).alloc (.cells #[.int .u32 2] 26)).alloc (.cells #[.int .u32 1] 26)).cell? ⟨w.heap.size + 2, 0, none⟩ = some (.int .u32 1) := by
    rw [World.cell?_alloc_at _ _ _ _ (by simp)]; rfl
  have c3 : (((w.alloc (.cells #[.int .u32 1] 26)).alloc (.cells #[.int .u32 2] 26)).alloc (.cells #[.int .u32 1] 26)).drew.drew.cell? ⟨w.heap.size + 2, 0, none⟩ = some (.int .u32 1) := c4
  go_wp2_with (first | (go_at_call 4; go_loud (refine (sub12 _ w.heap.size (w.heap.size + 1) c1 c2).mono ?_; rintro e w' ⟨rfl, rfl⟩)) | (go_at_call 5; go_loud (refine (div0 _ (w.heap.size + 2) c3).mono ?_; rintro e w' ⟨rfl, rfl⟩)) | (go_at_call 6; go_loud (refine (error4 _).mono ?_; rintro e w' ⟨rfl, rfl⟩)))
  go_ret
  refine ⟨rfl, ?_⟩
  have hb : Below w.heap.size w (((w.alloc (.cells #[.int .u32 1] 26)).alloc (.cells #[.int .u32 2] 26)).alloc (.cells #[.int .u32 1] 26)) := (((Below.refl _ w).alloc (Nat.le_refl _) _).alloc (by simp) _).alloc (by simp; omega) _
  exact ⟨hb.os, hb.tape, hb.output, hb.size, hb.block⟩
end Go.Proofs.YtjbaonlhmpcicaaDoor
