/- The statement RatFieldUptoSaid: the law's Go code answers true and leaves its arguments as they read, for all arguments of a bulk of at most 1048576 in all; no further condition. -/
import Derived.Test.YtndopanohhdfgaaRows
import Derived.Test.YtndopanohhdfgaaWalkRatFieldK
import Derived.Test.YtndopanohhdfgaaZDK
import Derived.WalkKit
import Derived.ProofKit
import Derived.OpenShut
import Derived.ShutString
import Derived.ChangeOld
import Derived.Below
import Derived.SizedLaws
import Derived.JoinedCond
namespace Go.Proofs.Ytndopanohhdfgaa.ratField
open Go.ChangeShapes Go.WideShapes Go.ChangeAt Go.RowKit
open Go.ChangeMaps (open_string shut_string)
theorem own : ownKnob Try.prog.godebug = none := by kernel_rfl
theorem laidOut : laidOutB Try.prog = true := by kernel_rfl
set_option maxRecDepth 100000 in
theorem contract (H : Type) (enc : TypeId × Value → H) (W : World) (base : Nat) (args : Array Value) (ds gs : List (DataW H)) (before : List MemPlace)
    (hval0 : ∀ (j : Nat) t v, Try.f10.params[j]? = some t → args[j]? = some v → Value.okWide Try.prog W .any base t v)
    (hW : DataW.Whole enc Try.prog Try.f10.params.toList Rows.ratFieldSpec.vars false W args.toList ds gs before) (hk0 : Rows.uptoSmall H (ds ++ gs) = true) :
    Calls Try.prog 10 args W fun e W' => ∃ v, e = .returned v ∧ Rows.ratFieldSpec.post enc Try.prog Try.f10 false true false false W args v W' := by
  have hval := hval0
  have hW' := hW
  obtain ⟨p, q, hA0, hV, rfl, hfz, hnd⟩ := hW
  have hA : DataW.TrodAll enc Try.prog W 0 (fun _ => true) true Try.f10.params.toList args.toList ds p := hA0
  rw [Try.params10] at hA hval
  obtain ⟨v0, vs0, d0, ds0, p0, q0, hargs, rfl, rfl, h0, r0⟩ := trodAll_cons hA
  obtain ⟨v1, vs1, d1, ds1, p1, q1, rfl, rfl, rfl, h1, r1⟩ := trodAll_cons r0
  obtain ⟨v2, vs2, d2, ds2, p2, q2, rfl, rfl, rfl, h2, r2⟩ := trodAll_cons r1
  obtain ⟨rfl, rfl, rfl⟩ := trodAll_nil r2
  obtain rfl : args = #[v0, v1, v2] := by cases args; simp_all
  obtain ⟨rfl, rfl⟩ := trodVars_none hV
  have hk := hk0
  simp only [List.append_nil] at hk
  obtain ⟨b0n, a0n, len0n, cap0n, zz0n, b0d, a0d, len0d, cap0d, zz0d, rfl, w0n, yy0n, w0d, yy0d⟩ := bulks.open_rat Try.underlying29 rfl rfl rfl (by kernel_rfl) (by kernel_rfl) Try.underlying24 rfl rfl (by kernel_rfl) (by kernel_rfl) Try.underlying4 Try.underlying22 Try.underlying68 (by kernel_rfl) (hval 0 29 v0 rfl rfl) h0
  have y0n := bulks.num_small hk (by simp) yy0n
  have y0d := bulks.num_small hk (by simp) yy0d
  have k0 := h0
  have lt0 : ∀ x ∈ p0, x.block < W.heap.size := by obtain ⟨m, hm⟩ := k0; exact DataW.trod_lt m _ _ _ hm
  obtain ⟨b1n, a1n, len1n, cap1n, zz1n, b1d, a1d, len1d, cap1d, zz1d, rfl, w1n, yy1n, w1d, yy1d⟩ := bulks.open_rat Try.underlying29 rfl rfl rfl (by kernel_rfl) (by kernel_rfl) Try.underlying24 rfl rfl (by kernel_rfl) (by kernel_rfl) Try.underlying4 Try.underlying22 Try.underlying68 (by kernel_rfl) (hval 1 29 v1 rfl rfl) h1
  have y1n := bulks.num_small hk (by simp) yy1n
  have y1d := bulks.num_small hk (by simp) yy1d
  have k1 := h1
  have lt1 : ∀ x ∈ p1, x.block < W.heap.size := by obtain ⟨m, hm⟩ := k1; exact DataW.trod_lt m _ _ _ hm
  obtain ⟨b2n, a2n, len2n, cap2n, zz2n, b2d, a2d, len2d, cap2d, zz2d, rfl, w2n, yy2n, w2d, yy2d⟩ := bulks.open_rat Try.underlying29 rfl rfl rfl (by kernel_rfl) (by kernel_rfl) Try.underlying24 rfl rfl (by kernel_rfl) (by kernel_rfl) Try.underlying4 Try.underlying22 Try.underlying68 (by kernel_rfl) (hval 2 29 v2 rfl rfl) h2
  have y2n := bulks.num_small hk (by simp) yy2n
  have y2d := bulks.num_small hk (by simp) yy2d
  have k2 := h2
  have lt2 : ∀ x ∈ p2, x.block < W.heap.size := by obtain ⟨m, hm⟩ := k2; exact DataW.trod_lt m _ _ _ hm
  clear hA0 hval0 hk0
  refine (PA.trammellaw03_RatField.walk b0n a0n len0n cap0n zz0n b0d a0d len0d cap0d zz0d b1n a1n len1n cap1n zz1n b1d a1d len1d cap1d zz1d b2n a2n len2n cap2n zz2n b2d a2d len2d cap2d zz2d W w0n y0n w0d y0d w1n y1n w1d y1d w2n y2n w2d y2d).mono fun e W' ⟨he, bel⟩ => ?_
  subst he
  exact ⟨_, rfl, _, _, _, [], _, [], hW', trodAll_mk1 (shut_bool Try.underlying4 _), (trodAll_cons_mk (Below.trod laidOut (by kernel_rfl) (of_decide_eq_true (by kernel_rfl)) k0 bel lt0) (trodAll_cons_mk (Below.trod laidOut (by kernel_rfl) (of_decide_eq_true (by kernel_rfl)) k1 bel lt1) (trodAll_cons_mk (Below.trod laidOut (by kernel_rfl) (of_decide_eq_true (by kernel_rfl)) k2 bel lt2) trodAll_mk0))), rfl, bel.frame _, fun h => by cases h⟩
set_option maxRecDepth 100000 in
theorem lifted (os : Os) (started : os.Started) (H : Type) (enc : TypeId × Value → H) (F : Stop.Interp) :
    ReturnsInHanded {} Try.checked os 10 .any ((Rows.OpenSpec.upto Rows.ratFieldSpec).pre6 enc Try.prog Try.f10 Rows.ratFieldUptoRow.domain false) (((Rows.OpenSpec.upto Rows.ratFieldSpec).at F).post enc Try.prog Try.f10 false true false false) := by
  refine returnsInHanded_of_cond (C := Try.checked) (s := Rows.OpenSpec.upto Rows.ratFieldSpec) (k := Rows.uptoSmall) rfl own started (by kernel_rfl) Try.func10
    (OpenSpec.witness (enc := enc) (C := Try.checked) (s := Rows.OpenSpec.upto Rows.ratFieldSpec) (k := Rows.uptoSmall) rfl false ⟨#[], #[.agg #[.bool false, .slice none 0 0, .bool false, .slice none 0 0], .agg #[.bool false, .slice none 0 0, .bool false, .slice none 0 0], .agg #[.bool false, .slice none 0 0, .bool false, .slice none 0 0]], []⟩ 8 (by kernel_rfl) (by kernel_rfl) (by kernel_rfl)
      (x := ([.agg [.agg [.lit (.bool false), .nil], .agg [.lit (.bool false), .nil]], .agg [.agg [.lit (.bool false), .nil], .agg [.lit (.bool false), .nil]], .agg [.agg [.lit (.bool false), .nil], .agg [.lit (.bool false), .nil]]], [], [])) (by kernel_rfl) rfl (by kernel_rfl)) ?_
  intro W base args ds gs before hval hW _ hk _
  exact contract H enc W base args ds gs before hval hW hk
theorem proved : Rows.RatFieldUptoSaid :=
  OpenClaim.holds_of_cond 10 Try.f10 rfl rfl rfl rfl rfl rfl rfl ⟨rfl, rfl, rfl, rfl, rfl⟩ rfl rfl rfl rfl rfl (by kernel_rfl) Try.func10 (by kernel_rfl)
    (of_decide_eq_true (by kernel_rfl)) (by unfold Func.isWrapper; first | (rw [if_pos (by decide +kernel)]; kernel_rfl) | (rw [if_neg (by decide +kernel)]; exact ⟨rfl, rfl⟩))
    (fun os started H enc _ F => lifted os started H enc F)
#print axioms proved
end Go.Proofs.Ytndopanohhdfgaa.ratField
namespace Go.Proofs.Ytndopanohhdfgaa
/-- The row, under a short name, for the claim. -/
theorem ratField_upto : Rows.RatFieldUptoSaid := ratField.proved
end Go.Proofs.Ytndopanohhdfgaa

