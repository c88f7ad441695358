/- The walk of the document's Read. -/
import Derived.Outline
import Derived.Test.YtndopanohhdfgaaZMK
import Derived.Test.YtndopanohhdfgaaPAx0K
namespace Go.Proofs.Ytndopanohhdfgaa.PA
open Go Go.Proofs.Ytndopanohhdfgaa.Nums Go.RowKit Go.Proofs.YtndopanohhdfgaaW.PrintWords Go.Proofs.YtndopanohhdfgaaW.PrintLast Go.Proofs.YtndopanohhdfgaaW.PrintMore
set_option linter.unusedVariables false
set_option linter.unusedSimpArgs false
theorem run_cast {P : Program} {a : Act} {o : Oper} {W : World} {b b' : Bool} (h : (execOp a.eval o).run P W = .ok (.value (.bool b)) W) (e : b = b') : (execOp a.eval o).run P W = .ok (.value (.bool b')) W := e ▸ h
def chunk (s : ByteArray) (k i : Nat) : Nat := min 9 (s.size - (i + k))
theorem chunk_min {s : ByteArray} {k i : Nat} {z : Int} (h : z = (s.size : Int) - ((i + k : Nat) : Int)) (h0 : 0 ≤ z) : min (9 : Int) z = ((chunk s k i : Nat) : Int) := by
  unfold chunk
  omega
theorem chunk_rng {s : ByteArray} {k i : Nat} (h : i + k < s.size) : chunk s k i ≤ 9 ∧ 1 ≤ chunk s k i ∧ i + k + chunk s k i ≤ s.size := by
  unfold chunk
  omega
theorem w8 {x : Int} (h0 : 0 ≤ x) (h1 : x < 256) : IntKind.u8.wrap x = x := by
  rw [IntKind.wrap_u8]
  omega
theorem w32 {x : Int} (h0 : 0 ≤ x) (h1 : x < 4294967296) : IntKind.u32.wrap x = x := by
  rw [IntKind.wrap_u32]
  omega
theorem bad_lo {s : ByteArray} {k i : Nat} (h : decide ((bt s ((i + k : Nat) : Int)) < (48)) = true) : badAt (tlS s k) i = true := by
  rw [bad_tl, h]
  rfl
theorem bad_hi {s : ByteArray} {k i : Nat} (h : decide ((57) < (bt s ((i + k : Nat) : Int))) = true) : badAt (tlS s k) i = true := by
  rw [bad_tl]
  have e : decide (bt s ((i + k : Nat) : Int) > 57) = true := h
  rw [e, Bool.or_true, Bool.true_or]
theorem bad_no {s : ByteArray} {k i : Nat} (h : i = 1) (h2 : bt s (k : Int) = 48) : badAt (tlS s k) i = true := by
  rw [bad_tl, h2, h]
  simp
theorem good_at {s : ByteArray} {k i : Nat} (h1 : ¬ bt s ((i + k : Nat) : Int) < 48) (h2 : ¬ 57 < bt s ((i + k : Nat) : Int)) (h3 : i = 1 → ¬ bt s (k : Int) = 48) : badAt (tlS s k) i = false := by
  rw [bad_tl, decide_eq_false h1, decide_eq_false h2]
  by_cases e : i = 1
  · rw [beq_eq_false_iff_ne.mpr (h3 e), Bool.and_false]
    rfl
  · rw [beq_eq_false_iff_ne.mpr e]
    rfl
theorem dig_at {s : ByteArray} {k i : Nat} (h : badAt (tlS s k) i = false) : 48 ≤ bt s ((i + k : Nat) : Int) ∧ bt s ((i + k : Nat) : Int) ≤ 57 := by
  rw [bad_tl] at h
  simp only [Bool.or_eq_false_iff, decide_eq_false_iff_not] at h
  omega
theorem rdAt_no {s : ByteArray} (h : ¬ 0 < s.size) : rdAt s = 0 := by
  unfold rdAt
  rw [if_neg (fun x => h x.1)]
theorem rdAt_no' {s : ByteArray} (h : ¬ bt s 0 = 45) : rdAt s = 0 := by
  unfold rdAt
  rw [if_neg (fun x => h x.2)]
theorem rdAt_yes {s : ByteArray} (h : 0 < s.size) (h2 : bt s 0 = 45) : rdAt s = 1 := by
  unfold rdAt
  rw [if_pos ⟨h, h2⟩]
theorem readZ_err' {s : ByteArray} {A p : Nat} (h : ¬ 65536 < s.size) (hA : rdAt s = A) (hz : ¬ (A = 1 ∧ 1 < s.size ∧ bt s 1 = 48)) (he : rdN (tlS s A) = 0 ∧ rdP (tlS s A) = (p : Int) ∧ rdE (tlS s A) = 4) : readZ s = (0, A + (p : Int), 4) := by
  rw [readZ_err h hA hz he.2.2, he.2.1]
theorem readZ_ok' {s : ByteArray} {A i : Nat} (h : ¬ 65536 < s.size) (hA : rdAt s = A) (hz : ¬ (A = 1 ∧ 1 < s.size ∧ bt s 1 = 48)) (he : rdN (tlS s A) = numv (tlS s A) (tlS s A).size ∧ rdP (tlS s A) = 0 ∧ rdE (tlS s A) = 0) (hi : i = (tlS s A).size) : readZ s = (zof (A == 1) (numv (tlS s A) i), 0, 0) := by
  rw [readZ_ok h hA hz he.2.2, he.1, hi]
theorem zint_nines.at {w : World} {m : Int} {n c : Nat} (h : m = (n : Int)) (hc : n = c) (h9 : c ≤ 9) : Calls Try.prog 111 #[.int .i64 m] w (RetV w (.int .u32 (10 ^ c))) := by
  subst h
  subst hc
  exact zint_nines.sem h9
theorem RC.fms {t : ByteArray} {i c : Nat} {v : Int} (h0 : 0 ≤ numv t i) (h1 : numv t i < 10 ^ i) (h : RC t i c v) (ht : t.size ≤ 65536) : 0 ≤ numv t i * 10 ^ c ∧ Fm (numv t i * 10 ^ c) ∧ 0 ≤ numv t i * 10 ^ c + v ∧ Fm (numv t i * 10 ^ c + v) := by
  have h2 := ten9 h.nine
  have h3 := h.v0
  have h4 := h.v1
  have h5 := h.le
  have h6 : 0 ≤ numv t i * 10 ^ c := Int.mul_nonneg h0 h2.1
  have h7 : numv t i * 10 ^ c + v < 10 ^ (i + c) := by
    rw [Int.pow_add]
    have : (numv t i + 1) * 10 ^ c ≤ 10 ^ i * 10 ^ c := Int.mul_le_mul_of_nonneg_right (by omega) h2.1
    rw [Int.add_mul, Int.one_mul] at this
    omega
  exact ⟨h6, fm_ten h6 (by omega) (show i + c ≤ 10000000 by omega), by omega, fm_ten (by omega) h7 (by omega)⟩
def spIii (w0 : World) (z : Int) (u u2 : Value) : Sp := .val Sl (fun s => .tuple #[ag z s.v, u, u2]) (fun s => [(s.v, tyO w0 (mg z))])
def ResIii (w : World) (z : Int) (u u2 : Value) (e : Ending) (w' : World) : Prop := ∃ v, e = .returned (.tuple #[ag z v, u, u2]) ∧ Kd.R (Kd.int .u32) 68 w' w.heap.size (fun _ => True) v (mg z) ∧ Below w.heap.size w w'
section
variable {w0 w : World} {ts : List (Value × (World → Value → Prop))} {bs : List (Nat × TypeId × Array Value)} {P : Program} {f : FuncId} {args : Array Value} {x y z : Int} {u u2 : Value}
theorem Zt.callIii (Z : Zt w0 w ts bs) (h : Calls P f args w (ResIii w z u u2)) : Calls P f args w fun e W' => ∃ v, e = .returned v ∧ Below w.heap.size w W' ∧ (spIii w0 z u u2).New w0 w W' v :=
  h.mono fun _ _ ⟨v, he, hr, hb⟩ => by
    have ho := has_row hr Z.below.size
    obtain ⟨A, c, rfl, -, -⟩ := Rd.of_row hr
    exact ⟨_, he, hb, ⟨A, _, c⟩, rfl, ho⟩
end
theorem Zt.endsIii {w0 W : World} {ts : List (Value × (World → Value → Prop))} {bs : List (Nat × TypeId × Array Value)} {a : Act} {fn : Func} {p d d2 : Tmp} {g : Nat} {z z' : Int} {v u u2 u' u2' : Value} (Z : Zt w0 W ts bs) (ip jp : Nat) (h : fn.results = #[.cell p 24, .tmp d, .tmp d2]) (hd : a.defers = []) (hp : a.tmps.getD p undef = .pointer (some ⟨g, 0, none⟩)) (hd2 : a.tmps.getD d undef = u) (hd3 : a.tmps.getD d2 undef = u2) (ep : bs[ip]? = some (g, 24, #[.bool (decide (z < 0)), v])) (Op : ts[jp]? = some (v, tyO w0 (mg z))) (hzp : z = z') (hu : u = u') (hu2 : u2 = u2') : bodyPost Try.prog fn (ResIii w0 z' u' u2') .ret a W := by
  subst hzp
  subst hu
  subst hu2
  refine bodyPost_ret (v := .tuple #[ag z v, u, u2]) ?_ hd ⟨v, rfl, Z.row jp Op, Z.below⟩
  obtain ⟨c0p, c1p, -, -⟩ := (Z.bx ip ep).two
  have hp' : a.tmps[p]?.getD undef = .pointer (some ⟨g, 0, none⟩) := by simpa using hp
  have hd2' : a.tmps[d]?.getD undef = u := by simpa using hd2
  have hd3' : a.tmps[d2]?.getD undef = u2 := by simpa using hd3
  unfold results
  rw [h]
  go_simp
end Go.Proofs.Ytndopanohhdfgaa.PA

