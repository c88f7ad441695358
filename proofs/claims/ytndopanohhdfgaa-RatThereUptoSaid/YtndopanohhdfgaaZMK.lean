/- The number of a text, or the place of its first fault: what is answered, and that the reference answers so. -/
import Derived.Test.YtndopanohhdfgaaNatPowAK
import Derived.Test.YtndopanohhdfgaaNatR2K
import Derived.Test.YtndopanohhdfgaaNatR3K
import Derived.Test.YtndopanohhdfgaaPAx0K
import Derived.Outline
import Derived.Test.YtndopanohhdfgaaZEK
import Derived.Test.YtndopanohhdfgaaZGK
namespace Go.Proofs.Ytndopanohhdfgaa.PA
open Go Go.RowKit Go.Proofs.YtndopanohhdfgaaW.PrintWords Go.Proofs.YtndopanohhdfgaaW.PrintLast Go.Proofs.YtndopanohhdfgaaW.PrintMore
open Go.Proofs.Ytndopanohhdfgaa.Nums
set_option linter.unusedVariables false
/-- no digit at place i, or a digit behind a nought that stands first -/
def badAt (s : ByteArray) (i : Nat) : Bool := decide (bt s i < 48) || decide (bt s i > 57) || (i == 1 && bt s 0 == 48)
def scan (s : ByteArray) : Nat → Nat → Option Nat
  | 0, _ => none
  | d + 1, i => if badAt s i then some i else scan s d (i + 1)
/-- the number of the first i digits -/
def numv (s : ByteArray) : Nat → Int
  | 0 => 0
  | i + 1 => 10 * numv s i + (bt s i - 48)
def scanR (s : ByteArray) (o : Option Nat) : List Int × Int × Int := match o with
  | some i => ([], i, 4)
  | none => (lm (numv s s.size), 0, 0)
def readR (s : ByteArray) : List Int × Int × Int := if s.size > 65536 then ([], 0, 2) else if s.size = 0 then ([], 0, 4) else scanR s (scan s s.size 0)
theorem numv_lt {s : ByteArray} {i : Nat} (h : numv s i < 10 ^ i) (hb : badAt s i = false) (h0 : 0 ≤ numv s i) : 0 ≤ numv s (i + 1) ∧ numv s (i + 1) < 10 ^ (i + 1) := by
  unfold badAt at hb
  simp only [Bool.or_eq_false_iff, decide_eq_false_iff_not] at hb
  have e : numv s (i + 1) = 10 * numv s i + (bt s i - 48) := rfl
  rw [e, Int.pow_succ]
  omega
theorem ten_Bp (i : Nat) : (10 : Int) ^ i ≤ Bp i := by
  have h : (10 : Nat) ^ i ≤ 4294967296 ^ i := Nat.pow_le_pow_left (by decide) i
  unfold Bp
  have e1 : (10 : Int) ^ i = ((10 ^ i : Nat) : Int) := by rw [Int.natCast_pow]; rfl
  have e2 : (4294967296 : Int) ^ i = ((4294967296 ^ i : Nat) : Int) := by rw [Int.natCast_pow]; rfl
  omega
end Go.Proofs.Ytndopanohhdfgaa.PA


/- A number of a text: single operations on texts and small words; what is read, plain. -/
namespace Go.Proofs.Ytndopanohhdfgaa.PA
open Go Go.Proofs.Ytndopanohhdfgaa.Nums Go.RowKit Go.Proofs.YtndopanohhdfgaaW.PrintWords Go.Proofs.YtndopanohhdfgaaW.PrintLast Go.Proofs.YtndopanohhdfgaaW.PrintMore
set_option linter.unusedVariables false
set_option linter.unusedSimpArgs false
section
variable {a : Act} {o : Oper} {W : World} {p q : Operand}
theorem run_lenS {s : ByteArray} (ho : o.op = .call { callee := .builtin .len, args := #[p], argTypes := #[9] }) (he : a.eval p = .string s) : (execOp a.eval o).run Try.prog W = .ok (.value (.int .i64 ((s.size : Nat) : Int))) W := by
  unfold execOp
  simp only [ho, resolve, List.map_toArray, List.map_cons, List.map_nil, he]
  go_simp
theorem run_idxS {s : ByteArray} {i : Int} (h0 : 0 ≤ i) (hi : i < s.size) (ho : o.op = .index 9 p q) (he : a.eval p = .string s) (he2 : a.eval q = .int .i64 i) : (execOp a.eval o).run Try.prog W = .ok (.value (.int .u8 (bt s i))) W := by
  have e : bt s i = ((s[i.toNat]'(by omega)).toNat : Int) := by unfold bt; rw [dif_pos (show i.toNat < s.size by omega)]
  rw [e]
  have h := run_index_string (P := Try.prog) W 9 s .i64 i Try.underlying9
  rw [dif_pos ⟨h0, hi⟩] at h
  unfold execOp
  simp only [ho, he, he2]
  go_simp
theorem run_cutS {s : ByteArray} {i : Nat} (hi : i ≤ s.size) (ho : o.op = .slice 9 p (some q) none none) (he : a.eval p = .string s) (he2 : a.eval q = .int .i64 (i : Int)) : (execOp a.eval o).run Try.prog W = .ok (.value (.string (s.extract i s.size))) W := by
  unfold execOp
  simp only [ho, he, Option.map_some, he2]
  go_simp
  try omega
theorem run_lssY {x y : Int} (ho : o.op = .binOp .lss 5 p q 5) (he : a.eval p = .int .u8 x) (he2 : a.eval q = .int .u8 y) : (execOp a.eval o).run Try.prog W = .ok (.value (.bool (decide (x < y)))) W := by
  unfold execOp
  simp only [ho, he, he2]
  go_simp
theorem run_gtrY {x y : Int} (ho : o.op = .binOp .gtr 5 p q 5) (he : a.eval p = .int .u8 x) (he2 : a.eval q = .int .u8 y) : (execOp a.eval o).run Try.prog W = .ok (.value (.bool (decide (y < x)))) W := by
  unfold execOp
  simp only [ho, he, he2]
  go_simp
theorem run_eqlY {x y : Int} (ho : o.op = .binOp .eql 5 p q 5) (he : a.eval p = .int .u8 x) (he2 : a.eval q = .int .u8 y) : (execOp a.eval o).run Try.prog W = .ok (.value (.bool (decide (x = y)))) W := by
  unfold execOp
  simp only [ho, he, he2]
  go_simp
  try rfl
theorem run_subY {x y z : Int} (h : IntKind.u8.wrap (x - y) = z) (ho : o.op = .binOp .sub 5 p q 5) (he : a.eval p = .int .u8 x) (he2 : a.eval q = .int .u8 y) : (execOp a.eval o).run Try.prog W = .ok (.value (.int .u8 z)) W := by
  subst h
  unfold execOp
  simp only [ho, he, he2]
  go_simp
theorem run_convY {x y : Int} (h : IntKind.u32.wrap x = y) (ho : o.op = .convert 5 68 p) (he : a.eval p = .int .u8 x) : (execOp a.eval o).run Try.prog W = .ok (.value (.int .u32 y)) W := by
  subst h
  unfold execOp
  simp only [ho, he]
  go_simp
theorem run_mul4 {x y z : Int} (h : IntKind.u32.wrap (x * y) = z) (ho : o.op = .binOp .mul 68 p q 68) (he : a.eval p = .int .u32 x) (he2 : a.eval q = .int .u32 y) : (execOp a.eval o).run Try.prog W = .ok (.value (.int .u32 z)) W := by
  subst h
  unfold execOp
  simp only [ho, he, he2]
  go_simp
theorem run_add4 {x y z : Int} (h : IntKind.u32.wrap (x + y) = z) (ho : o.op = .binOp .add 68 p q 68) (he : a.eval p = .int .u32 x) (he2 : a.eval q = .int .u32 y) : (execOp a.eval o).run Try.prog W = .ok (.value (.int .u32 z)) W := by
  subst h
  unfold execOp
  simp only [ho, he, he2]
  go_simp
theorem run_add' {x y z : Int} (h : wrap64 (x + y) = z) (ho : o.op = .binOp .add 3 p q 3) (he : a.eval p = .int .i64 x) (he2 : a.eval q = .int .i64 y) : (execOp a.eval o).run Try.prog W = .ok (.value (.int .i64 z)) W := by
  subst h
  exact run_add ho he he2
theorem run_min {x y z : Int} (h : min x y = z) (ho : o.op = .call { callee := .builtin .min, args := #[p, q], argTypes := #[3, 3] }) (he : a.eval p = .int .i64 x) (he2 : a.eval q = .int .i64 y) : (execOp a.eval o).run Try.prog W = .ok (.value (.int .i64 z)) W := by
  subst h
  unfold execOp
  simp only [ho, resolve, List.map_toArray, List.map_cons, List.map_nil, he, he2]
  go_simp
end
theorem seq_one {w0 W : World} {ts : List (Value × (World → Value → Prop))} {bs : List (Nat × TypeId × Array Value)} {a : Act} {o : Oper} {ops : Array Oper} {r : List Oper} {Q : Exit → Act → World → Prop} {p : Operand} {N : Tmp} (Z : Zt w0 W ts bs) {x : Int} (hg : o.guard = none) (hd : o.dst = some N) (ho : o.op = .buildSlice 22 1 #[(0, p)]) (he : a.eval p = .int .u32 x)
    (hk : ∀ s : Sl, ∀ W', Zt w0 W' ((s.v, tyO w0 [x]) :: ts) bs → wpList Try.prog ops Q r (a.put o.dst s.v) W') : wpList Try.prog ops Q (o :: r) a W := by
  refine Kd.R_lit (Kd.int .u32) (w0 := W) W.heap.size 68 hg (N := N) hd (xs := ([x] : List Int)) (inner := [.int .u32 x]) (ok := fun _ => True) (okp := fun _ => True) ?_ ?_ (fun _ hk => hk) trivial (Below.refl _ _) (Nat.le_refl _) (by simp) ?_
  · unfold execOp
    simp only [ho, List.map_toArray, List.map_cons, List.map_nil, he]
    first | (go_simp; done) | (go_simp; rfl)
  · exact (Reps.one (show Kd.M (Kd.int .u32) _ _ _ x [.int .u32 x] from rfl) (Reps.none _ _))
  intro v3 W3 ho3 hb3 hg3 hnew3
  obtain ⟨A3, c3, rfl⟩ := Kd.R_slice ho3
  exact hk ⟨A3, _, c3⟩ W3 ((Z.step hb3).more (has_row ho3 Z.below.size))
theorem ok_one {x : Int} (h0 : 0 ≤ x) (h1 : x < 4294967296) : Ok [x] ∧ val [x] = x := by
  constructor
  · intro y hy
    rcases List.mem_singleton.mp hy with rfl
    omega
  · exact val_single x
theorem ten9 {n : Nat} (h : n ≤ 9) : 0 ≤ (10 : Int) ^ n ∧ (10 : Int) ^ n < 4294967296 := by
  have h1 : (10 : Nat) ^ n ≤ 10 ^ 9 := Nat.pow_le_pow_right (by omega) h
  have h3 : (10 : Int) ^ n = ((10 ^ n : Nat) : Int) := by rw [Int.natCast_pow]; rfl
  exact ⟨Int.le_of_lt (Int.pow_pos (by decide)), by omega⟩
theorem nines_0 (w : World) : (Instr.index 104 (.agg #[.int .u32 1, .int .u32 10, .int .u32 100, .int .u32 1000, .int .u32 10000, .int .u32 100000, .int .u32 1000000, .int .u32 10000000, .int .u32 100000000, .int .u32 1000000000]) (.int .i64 0)).run Try.prog w = .ok (.int .u32 1) w := by kernel_rfl
theorem nines_1 (w : World) : (Instr.index 104 (.agg #[.int .u32 1, .int .u32 10, .int .u32 100, .int .u32 1000, .int .u32 10000, .int .u32 100000, .int .u32 1000000, .int .u32 10000000, .int .u32 100000000, .int .u32 1000000000]) (.int .i64 1)).run Try.prog w = .ok (.int .u32 10) w := by kernel_rfl
theorem nines_2 (w : World) : (Instr.index 104 (.agg #[.int .u32 1, .int .u32 10, .int .u32 100, .int .u32 1000, .int .u32 10000, .int .u32 100000, .int .u32 1000000, .int .u32 10000000, .int .u32 100000000, .int .u32 1000000000]) (.int .i64 2)).run Try.prog w = .ok (.int .u32 100) w := by kernel_rfl
theorem nines_3 (w : World) : (Instr.index 104 (.agg #[.int .u32 1, .int .u32 10, .int .u32 100, .int .u32 1000, .int .u32 10000, .int .u32 100000, .int .u32 1000000, .int .u32 10000000, .int .u32 100000000, .int .u32 1000000000]) (.int .i64 3)).run Try.prog w = .ok (.int .u32 1000) w := by kernel_rfl
theorem nines_4 (w : World) : (Instr.index 104 (.agg #[.int .u32 1, .int .u32 10, .int .u32 100, .int .u32 1000, .int .u32 10000, .int .u32 100000, .int .u32 1000000, .int .u32 10000000, .int .u32 100000000, .int .u32 1000000000]) (.int .i64 4)).run Try.prog w = .ok (.int .u32 10000) w := by kernel_rfl
theorem nines_5 (w : World) : (Instr.index 104 (.agg #[.int .u32 1, .int .u32 10, .int .u32 100, .int .u32 1000, .int .u32 10000, .int .u32 100000, .int .u32 1000000, .int .u32 10000000, .int .u32 100000000, .int .u32 1000000000]) (.int .i64 5)).run Try.prog w = .ok (.int .u32 100000) w := by kernel_rfl
theorem nines_6 (w : World) : (Instr.index 104 (.agg #[.int .u32 1, .int .u32 10, .int .u32 100, .int .u32 1000, .int .u32 10000, .int .u32 100000, .int .u32 1000000, .int .u32 10000000, .int .u32 100000000, .int .u32 1000000000]) (.int .i64 6)).run Try.prog w = .ok (.int .u32 1000000) w := by kernel_rfl
theorem nines_7 (w : World) : (Instr.index 104 (.agg #[.int .u32 1, .int .u32 10, .int .u32 100, .int .u32 1000, .int .u32 10000, .int .u32 100000, .int .u32 1000000, .int .u32 10000000, .int .u32 100000000, .int .u32 1000000000]) (.int .i64 7)).run Try.prog w = .ok (.int .u32 10000000) w := by kernel_rfl
theorem nines_8 (w : World) : (Instr.index 104 (.agg #[.int .u32 1, .int .u32 10, .int .u32 100, .int .u32 1000, .int .u32 10000, .int .u32 100000, .int .u32 1000000, .int .u32 10000000, .int .u32 100000000, .int .u32 1000000000]) (.int .i64 8)).run Try.prog w = .ok (.int .u32 100000000) w := by kernel_rfl
theorem nines_9 (w : World) : (Instr.index 104 (.agg #[.int .u32 1, .int .u32 10, .int .u32 100, .int .u32 1000, .int .u32 10000, .int .u32 100000, .int .u32 1000000, .int .u32 10000000, .int .u32 100000000, .int .u32 1000000000]) (.int .i64 9)).run Try.prog w = .ok (.int .u32 1000000000) w := by kernel_rfl
set_option maxHeartbeats 4000000 in
set_option maxRecDepth 100000 in
theorem zint_nines.sem {w : World} {n : Nat} (h : n ≤ 9) : Calls Try.prog 111 #[.int .i64 (n : Int)] w (RetV w (.int .u32 (10 ^ n))) := by
  go_enter Try.func111, Try.ntmps111
  rcases (by omega : n = 0 ∨ n = 1 ∨ n = 2 ∨ n = 3 ∨ n = 4 ∨ n = 5 ∨ n = 6 ∨ n = 7 ∨ n = 8 ∨ n = 9) with rfl | rfl | rfl | rfl | rfl | rfl | rfl | rfl | rfl | rfl
  · have hix := nines_0 w
    go_wp2
    go_ret
    exact ⟨rfl, Below.refl _ _⟩
  · have hix := nines_1 w
    go_wp2
    go_ret
    exact ⟨rfl, Below.refl _ _⟩
  · have hix := nines_2 w
    go_wp2
    go_ret
    exact ⟨rfl, Below.refl _ _⟩
  · have hix := nines_3 w
    go_wp2
    go_ret
    exact ⟨rfl, Below.refl _ _⟩
  · have hix := nines_4 w
    go_wp2
    go_ret
    exact ⟨rfl, Below.refl _ _⟩
  · have hix := nines_5 w
    go_wp2
    go_ret
    exact ⟨rfl, Below.refl _ _⟩
  · have hix := nines_6 w
    go_wp2
    go_ret
    exact ⟨rfl, Below.refl _ _⟩
  · have hix := nines_7 w
    go_wp2
    go_ret
    exact ⟨rfl, Below.refl _ _⟩
  · have hix := nines_8 w
    go_wp2
    go_ret
    exact ⟨rfl, Below.refl _ _⟩
  · have hix := nines_9 w
    go_wp2
    go_ret
    exact ⟨rfl, Below.refl _ _⟩
/-- the text behind place k -/
def tlS (s : ByteArray) (k : Nat) : ByteArray := s.extract k s.size
theorem tlS_size {s : ByteArray} {k : Nat} : (tlS s k).size = s.size - k := by
  unfold tlS
  simp
theorem bt_tl {s : ByteArray} {k i : Nat} : bt (tlS s k) (i : Int) = bt s ((i + k : Nat) : Int) := by
  have hs := tlS_size (s := s) (k := k)
  unfold bt
  rw [show ((i : Int)).toNat = i by omega, show (((i + k : Nat) : Int)).toNat = i + k by omega]
  by_cases h : i + k < s.size
  · rw [dif_pos (by omega), dif_pos h]
    congr 2
    unfold tlS
    rw [ByteArray.getElem_extract]
    simp only [Nat.add_comm]
  · rw [dif_neg (by omega), dif_neg h]
def rdN (s : ByteArray) : Int := if s.size = 0 then 0 else match scan s s.size 0 with
  | some _ => 0
  | none => numv s s.size
def rdP (s : ByteArray) : Int := if s.size = 0 then 0 else match scan s s.size 0 with
  | some i => (i : Int)
  | none => 0
def rdE (s : ByteArray) : Int := if s.size = 0 then 4 else match scan s s.size 0 with
  | some _ => 4
  | none => 0
theorem readR_eq {s : ByteArray} (h : s.size ≤ 65536) : readR s = (lm (rdN s), rdP s, rdE s) := by
  unfold readR rdN rdP rdE
  rw [if_neg (by omega)]
  by_cases h0 : s.size = 0
  · simp only [if_pos h0, lm_zero]
  · simp only [if_neg h0]
    unfold scanR
    cases scan s s.size 0 with
    | some i => simp only [lm_zero]
    | none => rfl
theorem scan_to {s : ByteArray} {p : Nat} : ∀ d i, i + d = s.size → i ≤ p → p < s.size → (∀ j, i ≤ j → j < p → badAt s j = false) → badAt s p = true → scan s d i = some p := by
  intro d
  induction d with
  | zero => intro i h h1 h2; omega
  | succ d ih =>
    intro i h h1 h2 hg hb
    unfold scan
    by_cases e : i = p
    · subst e
      rw [hb]
      rfl
    · rw [hg i (Nat.le_refl _) (by omega)]
      exact ih (i + 1) (by omega) (by omega) h2 (fun j a b => hg j (by omega) b) hb
theorem scan_no {s : ByteArray} : ∀ d i, i + d = s.size → (∀ j, i ≤ j → j < s.size → badAt s j = false) → scan s d i = none := by
  intro d
  induction d with
  | zero => intro i h hg; rfl
  | succ d ih =>
    intro i h hg
    unfold scan
    rw [hg i (Nat.le_refl _) (by omega)]
    exact ih (i + 1) (by omega) (fun j a b => hg j (by omega) b)
theorem rd_bad {s : ByteArray} {p : Nat} (hp : p < s.size) (hg : ∀ j, j < p → badAt s j = false) (hb : badAt s p = true) : rdN s = 0 ∧ rdP s = p ∧ rdE s = 4 := by
  have e := scan_to s.size 0 (by omega) (Nat.zero_le _) hp (fun j _ h => hg j h) hb
  unfold rdN rdP rdE
  rw [if_neg (by omega), if_neg (by omega), if_neg (by omega), e]
  exact ⟨rfl, rfl, rfl⟩
theorem rd_good {s : ByteArray} (h0 : s.size ≠ 0) (hg : ∀ j, j < s.size → badAt s j = false) : rdN s = numv s s.size ∧ rdP s = 0 ∧ rdE s = 0 := by
  have e := scan_no s.size 0 (by omega) (fun j _ h => hg j h)
  unfold rdN rdP rdE
  rw [if_neg h0, if_neg h0, if_neg h0, e]
  exact ⟨rfl, rfl, rfl⟩
theorem rd_none {s : ByteArray} (h0 : s.size = 0) : rdN s = 0 ∧ rdP s = 0 ∧ rdE s = 4 := by
  unfold rdN rdP rdE
  rw [if_pos h0, if_pos h0, if_pos h0]
  exact ⟨rfl, rfl, rfl⟩
theorem numv_rng {s : ByteArray} (hg : ∀ j, j < s.size → badAt s j = false) : ∀ i, i ≤ s.size → 0 ≤ numv s i ∧ numv s i < 10 ^ i := by
  intro i
  induction i with
  | zero => intro _; exact ⟨by show (0 : Int) ≤ 0; omega, by show (0 : Int) < 1; omega⟩
  | succ i ih =>
    intro hi
    obtain ⟨h0, h1⟩ := ih (by omega)
    exact numv_lt h1 (hg i (by omega)) h0
theorem rdN_rng {s : ByteArray} : 0 ≤ rdN s ∧ rdN s < 10 ^ s.size := by
  have hz : (0 : Int) < 10 ^ s.size := Int.pow_pos (by decide)
  by_cases h0 : s.size = 0
  · rw [(rd_none h0).1]
    omega
  · by_cases hg : ∀ j, j < s.size → badAt s j = false
    · rw [(rd_good h0 hg).1]
      exact numv_rng hg _ (Nat.le_refl _)
    · unfold rdN
      rw [if_neg h0]
      cases e : scan s s.size 0 with
      | some p => exact ⟨Int.le_refl _, hz⟩
      | none =>
        exfalso
        apply hg
        have : ∀ d i, i + d = s.size → scan s d i = none → ∀ j, i ≤ j → j < s.size → badAt s j = false := by
          intro d
          induction d with
          | zero => intro i h _ j a b; omega
          | succ d ih =>
            intro i h e j a b
            unfold scan at e
            split at e
            · cases e
            · rename_i hb
              by_cases hj : j = i
              · rw [hj]
                simpa using hb
              · exact ih (i + 1) (by omega) e j (by omega) b
        exact fun j hj => this _ _ (by omega) e j (Nat.zero_le _) hj
theorem fm_ten {x : Int} {n : Nat} (h0 : 0 ≤ x) (h : x < 10 ^ n) (hn : n ≤ 10000000) : Fm x := by
  unfold Fm
  exact Nat.le_trans (lm_len_le (n := n) h0 (by have := ten_Bp n; omega)) hn
/-- where the digits begin -/
def rdAt (s : ByteArray) : Nat := if 0 < s.size ∧ bt s 0 = 45 then 1 else 0
/-- what is read: the number, the place, the error -/
def readZ (s : ByteArray) : Int × Int × Int :=
  if s.size > 65536 then (0, 0, 2)
  else if rdAt s = 1 ∧ 1 < s.size ∧ bt s 1 = 48 then (0, 1, 4)
  else if rdE (tlS s (rdAt s)) = 0 then (zof (rdAt s == 1) (rdN (tlS s (rdAt s))), 0, 0)
  else (0, rdAt s + rdP (tlS s (rdAt s)), 4)
theorem readZ_long {s : ByteArray} (h : 65536 < s.size) : readZ s = (0, 0, 2) := by
  unfold readZ
  rw [if_pos h]
theorem readZ_zero {s : ByteArray} (h : ¬ 65536 < s.size) (hA : rdAt s = 1) (h1 : 1 < s.size) (h2 : bt s 1 = 48) : readZ s = (0, 1, 4) := by
  unfold readZ
  rw [if_neg h, if_pos ⟨hA, h1, h2⟩]
theorem readZ_err {s : ByteArray} {A : Nat} (h : ¬ 65536 < s.size) (hA : rdAt s = A) (hz : ¬ (A = 1 ∧ 1 < s.size ∧ bt s 1 = 48)) (he : rdE (tlS s A) = 4) : readZ s = (0, A + rdP (tlS s A), 4) := by
  unfold readZ
  rw [hA, if_neg h, if_neg hz, if_neg (by omega)]
theorem readZ_ok {s : ByteArray} {A : Nat} (h : ¬ 65536 < s.size) (hA : rdAt s = A) (hz : ¬ (A = 1 ∧ 1 < s.size ∧ bt s 1 = 48)) (he : rdE (tlS s A) = 0) : readZ s = (zof (A == 1) (rdN (tlS s A)), 0, 0) := by
  unfold readZ
  rw [hA, if_neg h, if_neg hz, if_pos he]
/-- digits i to i + c make v -/
structure RC (t : ByteArray) (i c : Nat) (v : Int) : Prop where
  le : i + c ≤ t.size
  nine : c ≤ 9
  v0 : 0 ≤ v
  v1 : v < 10 ^ c
  num : numv t (i + c) = numv t i * 10 ^ c + v
theorem RC.start {t : ByteArray} {i : Nat} (h : i ≤ t.size) : RC t i 0 0 := ⟨h, by omega, Int.le_refl _, by decide, by simp⟩
theorem RC.step {t : ByteArray} {i c : Nat} {v : Int} (h : RC t i c v) (hi : i + c < t.size) (h9 : c < 9) (hb : badAt t (i + c) = false) : RC t i (c + 1) (10 * v + (bt t ((i + c : Nat) : Int) - 48)) := by
  obtain ⟨a, b, d, e, g⟩ := h
  unfold badAt at hb
  simp only [Bool.or_eq_false_iff, decide_eq_false_iff_not] at hb
  refine ⟨by omega, by omega, by omega, by rw [Int.pow_succ]; omega, ?_⟩
  show 10 * numv t (i + c) + (bt t ((i + c : Nat) : Int) - 48) = _
  rw [g, Int.pow_succ]
  generalize (10 : Int) ^ c = T
  grind
theorem RC.small {t : ByteArray} {i c : Nat} {v : Int} (h : RC t i c v) (h9 : c < 9) : v < 100000000 := by
  have h1 : (10 : Nat) ^ c ≤ 10 ^ 8 := Nat.pow_le_pow_right (by omega) (by omega)
  have h3 : (10 : Int) ^ c = ((10 ^ c : Nat) : Int) := by rw [Int.natCast_pow]; rfl
  have := h.v1
  omega
/-- no digit at this place, read off the text itself -/
theorem bad_tl {s : ByteArray} {k i : Nat} : badAt (tlS s k) i = (decide (bt s ((i + k : Nat) : Int) < 48) || decide (bt s ((i + k : Nat) : Int) > 57) || (i == 1 && bt s (k : Int) == 48)) := by
  unfold badAt
  rw [bt_tl, show (0 : Int) = ((0 : Nat) : Int) from rfl, bt_tl, Nat.zero_add]
end Go.Proofs.Ytndopanohhdfgaa.PA

