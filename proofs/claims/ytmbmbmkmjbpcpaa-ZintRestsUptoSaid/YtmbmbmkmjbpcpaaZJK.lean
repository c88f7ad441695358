/- The plain law of Euclid's steps with the factors (Bezout). -/
import Derived.Outline
import Derived.Test.YtmbmbmkmjbpcpaaZFK
import Derived.Test.YtmbmbmkmjbpcpaaPAx0K
import Derived.Test.YtmbmbmkmjbpcpaaZIK
import Derived.Test.YtmbmbmkmjbpcpaaZEK
namespace Go.Proofs.Ytmbmbmkmjbpcpaa.PA
open Go Go.Proofs.Ytmbmbmkmjbpcpaa.Nums Go.RowKit Go.Proofs.YtmbmbmkmjbpcpaaW.PrintWords Go.Proofs.YtmbmbmkmjbpcpaaW.PrintLast Go.Proofs.YtmbmbmkmjbpcpaaW.PrintMore
set_option linter.unusedVariables false
set_option linter.unusedSimpArgs false
theorem fm_rng {a b : Int} (h0 : b ≠ 0) : (a.fmod b).natAbs < b.natAbs ∧ (0 < b → 0 ≤ a.fmod b) ∧ (b < 0 → a.fmod b ≤ 0) := by
  rcases Int.lt_trichotomy b 0 with h | h | h
  · obtain ⟨-, k2, k3⟩ := (Int.fdiv_fmod_unique' (a := a) h).mp ⟨rfl, rfl⟩
    exact ⟨by omega, by omega, by omega⟩
  · exact absurd h h0
  · obtain ⟨-, k2, k3⟩ := (Int.fdiv_fmod_unique (a := a) h).mp ⟨rfl, rfl⟩
    exact ⟨by omega, by omega, by omega⟩
/-- Euclid's steps, with the first number's factor -/
def bez (r s x u : Int) : Int × Int := if h : s = 0 then (r, x) else bez s (r.fmod s) u (x - r.fdiv s * u)
termination_by s.natAbs
decreasing_by exact (fm_rng h).1
theorem bez_0 {r x u : Int} : bez r 0 x u = (r, x) := by rw [bez]; simp
theorem bez_s {r s x u : Int} (h : s ≠ 0) : bez r s x u = bez s (r.fmod s) u (x - r.fdiv s * u) := by
  rw [bez]
  simp only [dif_neg h]
/-- the factors stay small: what they make of the two numbers is always the same size -/
structure BzW (B : Nat) (r s x u : Int) : Prop where
  rs : (0 ≤ r ∧ 0 ≤ s) ∨ (r ≤ 0 ∧ s ≤ 0)
  xu : (0 ≤ x ∧ u ≤ 0) ∨ (x ≤ 0 ∧ 0 ≤ u)
  sum : u.natAbs * r.natAbs + x.natAbs * s.natAbs = B
structure BzI (z1 z2 r s x u : Int) : Prop where
  res : bez r s x u = bez z1 z2 1 0
  gcd : Int.gcd r s = Int.gcd z1 z2
  bx : x.natAbs ≤ z2.natAbs
  bu : u.natAbs ≤ z2.natAbs
  st : (r = z1 ∧ s = z2 ∧ x = 1 ∧ u = 0) ∨ (BzW z2.natAbs r s x u ∧ r.natAbs ≤ z2.natAbs ∧ s.natAbs ≤ z2.natAbs)
  lin : ∃ y v, x * z1 + y * z2 = r ∧ u * z1 + v * z2 = s
theorem BzI.start {z1 z2 : Int} (h : z2 ≠ 0) : BzI z1 z2 z1 z2 1 0 :=
  ⟨rfl, rfl, by omega, by omega, .inl ⟨rfl, rfl, rfl, rfl⟩, ⟨0, 1, by omega, by omega⟩⟩
theorem gcd_fm {r s : Int} : Int.gcd s (r.fmod s) = Int.gcd r s := by
  have e := Int.fmod_add_mul_fdiv r s
  apply Nat.dvd_antisymm
  · refine Int.natCast_dvd_natCast.mp (Int.dvd_coe_gcd ?_ ?_)
    · have h : ((Int.gcd s (r.fmod s) : Nat) : Int) ∣ r.fmod s + s * r.fdiv s := Int.dvd_add (Int.gcd_dvd_right ..) (Int.dvd_mul_of_dvd_left (Int.gcd_dvd_left ..))
      rwa [e] at h
    · exact Int.gcd_dvd_left ..
  · refine Int.natCast_dvd_natCast.mp (Int.dvd_coe_gcd ?_ ?_)
    · exact Int.gcd_dvd_right ..
    · have : r.fmod s = r - s * r.fdiv s := by omega
      rw [this]
      exact Int.dvd_sub (Int.gcd_dvd_left ..) (Int.dvd_mul_of_dvd_left (Int.gcd_dvd_right ..))
theorem fd_sgn {r s : Int} (hs : s ≠ 0) (h : (0 ≤ r ∧ 0 ≤ s) ∨ (r ≤ 0 ∧ s ≤ 0)) : 0 ≤ r.fdiv s ∧ (r.fdiv s).natAbs * s.natAbs + (r.fmod s).natAbs = r.natAbs := by
  have e := Int.fmod_add_mul_fdiv r s
  obtain ⟨m1, m2, m3⟩ := fm_rng (a := r) hs
  generalize r.fdiv s = q at *
  generalize r.fmod s = t at *
  rcases Int.lt_or_le q 0 with hq | hq
  · exfalso
    rcases h with ⟨h1, h2⟩ | ⟨h1, h2⟩
    · have : s * q ≤ s * (-1) := Int.mul_le_mul_of_nonneg_left (by omega) h2
      omega
    · have : (-s) * q ≤ (-s) * (-1) := Int.mul_le_mul_of_nonneg_left (by omega) (by omega)
      rw [Int.neg_mul, Int.neg_mul] at this
      omega
  · refine ⟨hq, ?_⟩
    have e2 : ((q.natAbs * s.natAbs : Nat) : Int) = (s * q).natAbs := by rw [Int.natAbs_mul, Nat.mul_comm]
    rcases h with ⟨h1, h2⟩ | ⟨h1, h2⟩
    · have := Int.mul_nonneg h2 hq
      have := m2 (by omega)
      omega
    · have := Int.mul_nonneg (a := -s) (by omega) hq
      rw [Int.neg_mul] at this
      have := m3 (by omega)
      omega
theorem BzW.step {B : Nat} {r s x u : Int} (h : BzW B r s x u) (hs : s ≠ 0) : BzW B s (r.fmod s) u (x - r.fdiv s * u) ∧ (x - r.fdiv s * u).natAbs ≤ B := by
  obtain ⟨h1, h2, h3⟩ := h
  obtain ⟨m1, m2, m3⟩ := fm_rng (a := r) hs
  obtain ⟨f1, f2⟩ := fd_sgn hs h1
  have hn : (x - r.fdiv s * u).natAbs = x.natAbs + (r.fdiv s).natAbs * u.natAbs := by
    rw [← Int.natAbs_mul]
    generalize r.fdiv s = q at *
    rcases h2 with ⟨a, b⟩ | ⟨a, b⟩
    · have := Int.mul_nonneg f1 (show 0 ≤ -u by omega)
      rw [Int.mul_neg] at this
      omega
    · have := Int.mul_nonneg f1 b
      omega
  have hsum : (x - r.fdiv s * u).natAbs * s.natAbs + u.natAbs * (r.fmod s).natAbs = B := by
    rw [hn, ← h3, ← f2, Nat.add_mul, Nat.mul_add]
    have : (r.fdiv s).natAbs * u.natAbs * s.natAbs = u.natAbs * ((r.fdiv s).natAbs * s.natAbs) := by
      rw [Nat.mul_comm (r.fdiv s).natAbs, Nat.mul_assoc]
    omega
  refine ⟨⟨?_, ?_, hsum⟩, ?_⟩
  · rcases h1 with ⟨a, b⟩ | ⟨a, b⟩
    · exact .inl ⟨b, m2 (by omega)⟩
    · exact .inr ⟨b, m3 (by omega)⟩
  · generalize r.fdiv s = q at *
    rcases h2 with ⟨a, b⟩ | ⟨a, b⟩
    · have := Int.mul_nonneg f1 (show 0 ≤ -u by omega)
      rw [Int.mul_neg] at this
      right
      omega
    · have := Int.mul_nonneg f1 b
      left
      omega
  · have : (x - r.fdiv s * u).natAbs * 1 ≤ (x - r.fdiv s * u).natAbs * s.natAbs := Nat.mul_le_mul_left _ (by omega)
    omega
theorem BzI.step {z1 z2 r s x u : Int} (h : BzI z1 z2 r s x u) (hs : s ≠ 0) : BzI z1 z2 s (r.fmod s) u (x - r.fdiv s * u) := by
  obtain ⟨e, g, bx, bu, st, y, v, l1, l2⟩ := h
  have hl : ∃ y v, u * z1 + y * z2 = s ∧ (x - r.fdiv s * u) * z1 + v * z2 = r.fmod s := by
    refine ⟨v, y - r.fdiv s * v, l2, ?_⟩
    have e := Int.fmod_add_mul_fdiv r s
    have : (x - r.fdiv s * u) * z1 + (y - r.fdiv s * v) * z2 = (x * z1 + y * z2) - r.fdiv s * (u * z1 + v * z2) := by
      rw [Int.sub_mul, Int.sub_mul, Int.mul_add, Int.mul_assoc, Int.mul_assoc]
      omega
    rw [this, l1, l2, Int.mul_comm (r.fdiv s)]
    omega
  rcases st with ⟨rfl, rfl, rfl, rfl⟩ | ⟨hw, hr, hs2⟩
  · refine ⟨(bez_s hs).symm.trans e, gcd_fm.trans g, by omega, by omega, .inr ⟨⟨?_, .inr (by omega), by simp⟩, by omega, ?_⟩, hl⟩
    · obtain ⟨m1, m2, m3⟩ := fm_rng (a := r) hs
      rcases Int.lt_trichotomy s 0 with h | h | h
      · exact .inr ⟨by omega, m3 h⟩
      · exact absurd h hs
      · exact .inl ⟨by omega, m2 h⟩
    · have := (fm_rng (a := r) hs).1
      omega
  · have := (fm_rng (a := r) hs).1
    exact ⟨(bez_s hs).symm.trans e, gcd_fm.trans g, bu, (hw.step hs).2, .inr ⟨(hw.step hs).1, hs2, by omega⟩, hl⟩
theorem BzI.bdx {k : Nat} {z1 z2 r s x u : Int} (h : BzI z1 z2 r s x u) (hb : Bd k z2) : Bd k x := Nat.lt_of_le_of_lt h.bx hb
theorem BzI.bdu {k : Nat} {z1 z2 r s x u : Int} (h : BzI z1 z2 r s x u) (hb : Bd k z2) : Bd k u := Nat.lt_of_le_of_lt h.bu hb
theorem BzI.bds {k : Nat} {z1 z2 r s x u : Int} (h : BzI z1 z2 r s x u) (hb : Bd k z2) : Bd k s := by
  rcases h.st with ⟨-, rfl, -⟩ | ⟨-, -, h⟩
  · exact hb
  · exact Nat.lt_of_le_of_lt h hb
theorem BzI.bdr {k : Nat} {z1 z2 r s x u : Int} (h : BzI z1 z2 r s x u) (h1 : Bd k z1) (hb : Bd k z2) : Bd k r := by
  rcases h.st with ⟨rfl, -⟩ | ⟨-, h, -⟩
  · exact h1
  · exact Nat.lt_of_le_of_lt h hb
def bezG (a b : Int) : Int := (Int.gcd a b : Nat)
def bezX (a b : Int) : Int := if b = 0 then a.sign else (if (bez a b 1 0).1 < 0 then -(bez a b 1 0).2 else (bez a b 1 0).2).fmod (((b.natAbs : Nat) : Int).fdiv (bezG a b))
def bezY (a b : Int) : Int := if b = 0 then 0 else (bezG a b - bezX a b * a).fdiv b
theorem gcdI_abs (a b : Int) : gcdI ((a.natAbs : Nat)) ((b.natAbs : Nat)) = bezG a b := by
  unfold gcdI bezG
  simp [Int.gcd]
theorem bezG_pos {a b : Int} (h : b ≠ 0) : 0 < bezG a b := by
  unfold bezG
  have : 0 < Int.gcd a b := Nat.pos_of_ne_zero fun e => h (Int.gcd_eq_zero_iff.mp e).2
  omega
theorem bezG_dvd (a b : Int) : bezG a b ∣ a ∧ bezG a b ∣ b := ⟨Int.gcd_dvd_left .., Int.gcd_dvd_right ..⟩
theorem bez_step {a b : Int} (h : b ≠ 0) : 0 < ((b.natAbs : Nat) : Int).fdiv (bezG a b) ∧ ((b.natAbs : Nat) : Int).fdiv (bezG a b) * bezG a b = ((b.natAbs : Nat) : Int) := by
  have hg := bezG_pos (a := a) h
  have hd : bezG a b ∣ ((b.natAbs : Nat) : Int) := Int.dvd_natAbs.mpr (bezG_dvd a b).2
  obtain ⟨k, hk⟩ := hd
  have : ((b.natAbs : Nat) : Int).fdiv (bezG a b) = k := by
    rw [hk]
    exact Int.mul_fdiv_cancel_left _ (by omega)
  rw [this]
  refine ⟨?_, by rw [hk, Int.mul_comm]⟩
  rcases Int.lt_or_le 0 k with h1 | h1
  · exact h1
  · have := Int.mul_nonneg (show 0 ≤ bezG a b by omega) (show 0 ≤ -k by omega)
    rw [Int.mul_neg] at this
    omega
theorem BzI.out {z1 z2 r s x u : Int} (h : BzI z1 z2 r s x u) (hs : s = 0) : (bez z1 z2 1 0) = (r, x) ∧ ((r.natAbs : Nat) : Int) = bezG z1 z2 := by
  subst hs
  have e := h.res
  rw [bez_0] at e
  refine ⟨e.symm, ?_⟩
  have g := h.gcd
  unfold bezG
  rw [← g]
  simp
theorem bez_fin {z1 z2 r s x u G X : Int} (h0 : z2 ≠ 0) (h : BzI z1 z2 r s x u) (hs : s = 0) (hG : G = ((r.natAbs : Nat) : Int)) (hX : X = if r < 0 then -x else x) :
    G = bezG z1 z2 ∧ X.fmod (((z2.natAbs : Nat) : Int).fdiv G) = bezX z1 z2 ∧ (G - X.fmod (((z2.natAbs : Nat) : Int).fdiv G) * z1).fdiv z2 = bezY z1 z2 := by
  obtain ⟨e1, e2⟩ := h.out hs
  have hG' : G = bezG z1 z2 := hG.trans e2
  have hX' : X.fmod (((z2.natAbs : Nat) : Int).fdiv G) = bezX z1 z2 := by
    unfold bezX
    rw [if_neg h0, e1, hX, hG']
  refine ⟨hG', hX', ?_⟩
  rw [hX']
  unfold bezY
  rw [if_neg h0, hG']
/-- what the numbers of Bezout are -/
theorem bez_law {a b : Int} (h0 : b ≠ 0) : bezX a b * a + bezY a b * b = bezG a b ∧ 0 ≤ bezX a b ∧ bezX a b * bezG a b < ((b.natAbs : Nat) : Int) := by
  have hI : ∀ (n : Nat) (r s x u : Int), s.natAbs ≤ n → BzI a b r s x u → ∃ r' x' u', BzI a b r' 0 x' u' := by
    intro n
    induction n with
    | zero => intro r s x u h hi; obtain rfl : s = 0 := by omega
              exact ⟨r, x, u, hi⟩
    | succ n ih =>
      intro r s x u h hi
      by_cases hs : s = 0
      · subst hs
        exact ⟨r, x, u, hi⟩
      · exact ih _ _ _ _ (by have := (fm_rng (a := r) hs).1; omega) (hi.step hs)
  obtain ⟨r, x, u, hi⟩ := hI _ _ _ _ _ (Nat.le_refl _) (BzI.start (z1 := a) h0)
  obtain ⟨e1, e2⟩ := hi.out rfl
  obtain ⟨y, v, l1, l2⟩ := hi.lin
  obtain ⟨p1, p2⟩ := bez_step (a := a) h0
  have hg := bezG_pos (a := a) h0
  have hX : bezX a b = (if r < 0 then -x else x).fmod (((b.natAbs : Nat) : Int).fdiv (bezG a b)) := by
    unfold bezX
    rw [if_neg h0, e1]
  obtain ⟨m1, m2, m3⟩ := fm_rng (a := if r < 0 then -x else x) (show ((b.natAbs : Nat) : Int).fdiv (bezG a b) ≠ 0 by omega)
  have hdm := Int.fmod_add_mul_fdiv (if r < 0 then -x else x) (((b.natAbs : Nat) : Int).fdiv (bezG a b))
  rw [← hX] at m1 m2 m3 hdm
  have m2 := m2 p1
  have hlt : bezX a b * bezG a b < ((b.natAbs : Nat) : Int) := by
    rw [← p2]
    exact Int.mul_lt_mul_of_pos_right (by omega) hg
  refine ⟨?_, m2, hlt⟩
  have hd : b ∣ bezG a b - bezX a b * a := by
    have h1 : ∃ y', (if r < 0 then -x else x) * a + y' * b = bezG a b := by
      rw [← e2]
      by_cases hr : r < 0
      · rw [if_pos hr]
        refine ⟨-y, ?_⟩
        rw [Int.neg_mul, Int.neg_mul]
        omega
      · rw [if_neg hr]
        exact ⟨y, by omega⟩
    obtain ⟨y', h1⟩ := h1
    obtain ⟨c, hc⟩ := (bezG_dvd a b).1
    clear hX e1 e2
    generalize ((b.natAbs : Nat) : Int).fdiv (bezG a b) = S at *
    generalize bezG a b = G at *
    have h2 : S * a = ((b.natAbs : Nat) : Int) * c := by
      rw [hc, ← p2, Int.mul_assoc]
    generalize (if r < 0 then -x else x) = X at *
    generalize X.fdiv S = Q at *
    have h3 : G - bezX a b * a = y' * b + ((b.natAbs : Nat) : Int) * c * Q := by
      rw [← h2, ← h1, ← hdm, Int.add_mul, Int.mul_right_comm]
      omega
    rw [h3]
    exact Int.dvd_add (Int.dvd_mul_left ..) (Int.dvd_mul_of_dvd_left (Int.dvd_mul_of_dvd_left (Int.dvd_natAbs.mpr (Int.dvd_refl b))))
  obtain ⟨c, hc⟩ := hd
  have hy : bezY a b = c := by
    unfold bezY
    rw [if_neg h0, hc]
    exact Int.mul_fdiv_cancel_left _ h0
  rw [hy, Int.mul_comm c]
  omega
end Go.Proofs.Ytmbmbmkmjbpcpaa.PA


/- Regions in whatever order, where a nought of api.Int may be laid at any time. -/
namespace Go.Proofs.Ytmbmbmkmjbpcpaa.PA
open Go Go.Proofs.Ytmbmbmkmjbpcpaa.Nums Go.RowKit Go.Proofs.YtmbmbmkmjbpcpaaW.PrintWords Go.Proofs.YtmbmbmkmjbpcpaaW.PrintLast Go.Proofs.YtmbmbmkmjbpcpaaW.PrintMore
set_option linter.unusedVariables false
section
variable {Q : Exit → Act → World → Prop}
/-- it only hands a value on -/
def lightOp3 (o : Oper) : Bool := (match o.op with
  | .move _ => true
  | .assign _ => true
  | .extract _ _ => true
  | .build t ps => t == 25 && ps.isEmpty
  | _ => false) && o.guard.isNone
theorem light_yields3 {ops : Array Oper} {o : Oper} {a : Act} {W : World} {K : Act → World → Prop} (hl : lightOp3 o = true) {i : Nat} (ho : ops[i]? = some o) (h : ∀ Q', wpOp Try.prog ops Q' i K a W) : ∃ v, Yields Try.prog ops o v a ∧ K (a.put o.dst v) W := by
  unfold lightOp3 at hl
  rw [Bool.and_eq_true] at hl
  obtain ⟨h1, h2⟩ := hl
  have hg : o.guard = none := by simpa using h2
  have hw : ∀ tm, Region.wanted o (yielded ops tm) = true := fun tm => by simp [Region.wanted, hg]
  have h3 := h (fun _ _ _ => False)
  unfold Go.wpOp at h3
  rw [ho] at h3
  simp only [hw, if_true] at h3
  rcases h3 with h3 | ⟨-, ⟨_, _, h4⟩⟩
  case inr => exact h4.elim
  have key : (∃ v, (∀ w, (execOp a.eval o).run Try.prog w = .ok (.value v) w)) ∨ ∃ x : Unit, ∀ w, ∃ r, (execOp a.eval o).run Try.prog w = .halt r w ∧ ∀ v, r ≠ .panic v := by
    unfold execOp
    cases hop : o.op <;> rw [hop] at h1 <;> simp only [Bool.false_eq_true] at h1
    case move x => exact .inl ⟨a.eval x, fun w => rfl⟩
    case assign x => exact .inl ⟨a.eval x, fun w => rfl⟩
    case build t ps =>
      rw [Bool.and_eq_true] at h1
      obtain ⟨e1, e2⟩ := h1
      have e1 := eq_of_beq e1
      have e2 : ps = #[] := by simpa using e2
      subst e1
      subst e2
      refine .inl ⟨.agg #[.bool false, .slice none 0 0], fun w => ?_⟩
      have h := run_build0 (a := a) (o := o) (W := w) hop
      unfold execOp at h
      rw [hop] at h
      exact h
    case extract x i =>
      simp only [Instr.extract]
      cases a.eval x with
      | tuple vs =>
        simp only
        cases vs[i]? with
        | some v => exact .inl ⟨v, fun w => rfl⟩
        | none => exact .inr ⟨(), fun w => ⟨_, rfl, fun v h => by cases h⟩⟩
      | _ => exact .inr ⟨(), fun w => ⟨_, rfl, fun v h => by cases h⟩⟩
  rcases key with ⟨v, hv⟩ | ⟨_, hx⟩
  · refine ⟨v, .inl ⟨hw _, hv⟩, ?_⟩
    unfold Oper.wp at h3
    rw [hv] at h3
    exact h3
  · exfalso
    obtain ⟨r, hr, hn⟩ := hx W
    unfold Oper.wp at h3
    rw [hr] at h3
    cases r with
    | panic v => exact hn v rfl
    | _ => exact h3
/-- operation j only hands a value on, and whoever does not wait for it leaves it alone -/
def floats3 (ops : List Oper) (j : Nat) : Bool :=
  match ops[j]? with
  | none => false
  | some oj => lightOp3 oj && (List.range ops.length).all fun k => match ops[k]? with
    | none => true
    | some ok => decide (k ∈ clo ops j (waits ops j)) || k == j || (ok.after.any fun e => Region.binds .any e && e.on == j) || oj.apart ops.toArray ok
/-- from N on each waits for all ahead of it but what floats3 -/
def tailOk3 (ops : List Oper) (N : Nat) : Bool :=
  ((List.range ops.length).all fun i => ((waits ops i).all fun j => decide (j < i)) && (decide (i < N) || (List.range i).all fun j => decide (j ∈ clo ops i (waits ops i)) || (decide (j < N) && floats3 ops j))) && (ops.take N).all (early N)
theorem wp_dag3 {pre tail : List Oper} {sps : List Sp} {id : Nat} {w0 w : World} {a : Act} {ts : List (Value × (World → Value → Prop))} {bs : List (Nat × TypeId × Array Value)} (Z : Zt w0 w ts bs) (hm : Try.prog.follows .mixedOrders = true)
    (n : Nat) (hn : a.tmps.size = n) (hok : tailOk3 (pre ++ tail) pre.length = true) (hsel : Region.noSelect (pre ++ tail).toArray = true) (hd : dagOk pre n = true) (hl : pre.length = sps.length)
    (hQ : ∀ c a d v w, Q (.panic c) (Act.put a d v) w → Q (.panic c) a w)
    (hs : StepsE Try.prog w0 pre sps a ts bs 0 pre sps) (hf : Fin Try.prog (pre ++ tail).toArray Q w0 tail pre sps ts bs a) : (Code.region id (pre ++ tail).toArray true).wp Try.prog Q a w := by
  subst hn
  refine wp_region_any hm ?_
  unfold tailOk3 at hok
  rw [Bool.and_eq_true] at hok
  obtain ⟨hok, hg⟩ := hok
  rw [List.take_left] at hg
  have hlen : (pre ++ tail).length = pre.length + tail.length := List.length_append
  have hacy : ∀ i, i < (pre ++ tail).length → ∀ j, j ∈ waits (pre ++ tail) i → j < i := by
    intro i hi j hj
    have h1 := List.all_eq_true.mp hok i (List.mem_range.mpr hi)
    rw [Bool.and_eq_true] at h1
    simpa using List.all_eq_true.mp h1.1 j hj
  have hfo : ∀ i, pre.length ≤ i → i < (pre ++ tail).length → ∀ j, j < i → j ∈ clo (pre ++ tail) i (waits (pre ++ tail) i) ∨ (j < pre.length ∧ floats3 (pre ++ tail) j = true) := by
    intro i hN hi j hj
    have h1 := List.all_eq_true.mp hok i (List.mem_range.mpr hi)
    rw [Bool.and_eq_true, Bool.or_eq_true] at h1
    rcases h1.2 with h2 | h2
    · exact absurd (of_decide_eq_true h2) (by omega)
    · have h3 := List.all_eq_true.mp h2 j (List.mem_range.mpr hj)
      rw [Bool.or_eq_true, Bool.and_eq_true] at h3
      rcases h3 with h3 | ⟨h3, h4⟩
      · exact .inl (of_decide_eq_true h3)
      · exact .inr ⟨of_decide_eq_true h3, h4⟩
  have hfoT : ∀ i, pre.length ≤ i → i < (pre ++ tail).length → ∀ j, pre.length ≤ j → j < i → j ∈ clo (pre ++ tail) i (waits (pre ++ tail) i) := by
    intro i h1 h2 j h3 h4
    rcases hfo i h1 h2 j h4 with h | ⟨h, -⟩
    · exact h
    · omega
  have hends : ∀ (l : Array Bool) (a' : Act) (W : World) (fuel : Nat), unl l ≤ fuel → l.size = (pre ++ tail).length → Down (pre ++ tail) l → (∀ j, pre.length ≤ j → ¬ Ls l j) → DInv w0 pre sps a ts bs l a' W → (∀ i, i < pre.length → Ls l i) → wpAny Try.prog .any (pre ++ tail).toArray Q fuel l a' W := by
    intro l a' W fuel hu hs2 hdn hno hI hall
    refine tail_run hfoT hacy fuel pre.length l a' W hu hs2 hdn (Nat.le_refl _) (by omega) (fun j => ⟨fun hj => ?_, hall j⟩) ?_
    · rcases Nat.lt_or_ge j pre.length with h | h
      · exact h
      · exact absurd hj (hno j h)
    · have h := hI.fin hd hl hf hall
      have e : wpOps Try.prog (pre ++ tail).toArray Q (List.range' pre.length tail.length) = wpList Try.prog (pre ++ tail).toArray Q tail :=
        wpOps_eq_wpList tail pre.length (fun j => by simp [List.getElem?_append_right])
      rw [hlen, Nat.add_sub_cancel_left, e]
      exact h
  have key : ∀ (fuel : Nat) (l : Array Bool) (a' : Act) (W : World), unl l ≤ fuel → l.size = (pre ++ tail).length → Down (pre ++ tail) l → (∀ j, pre.length ≤ j → ¬ Ls l j) → DInv w0 pre sps a ts bs l a' W → wpAny Try.prog .any (pre ++ tail).toArray Q fuel l a' W := by
    intro fuel
    induction fuel with
    | zero =>
      intro l a' W hu hs2 hdn hno hI
      refine hends l a' W 0 hu hs2 hdn hno hI fun i hi => ?_
      by_cases h : Ls l i
      · exact h
      · have := unl_set (not_ls (by omega) h)
        omega
    | succ fuel ih =>
      intro l a' W hu hs2 hdn hno hI
      rcases least_un (n := pre.length) (l := l) with hall | ⟨m, hm1, hm2, hm3⟩
      · exact hends l a' W _ hu hs2 hdn hno hI hall
      have hmready : m ∈ Region.ready .any (pre ++ tail).toArray l := ready_of (by omega) hs2 hm2 (fun x hx => hm3 x (hacy m (by omega) x hx))
      -- one step of an operation of the first part
      have one : ∀ i, i < pre.length → i ∈ Region.ready .any (pre ++ tail).toArray l → ∀ Q', wpOp Try.prog pre.toArray Q' i (fun a2 W2 => DInv w0 pre sps a ts bs (l.setIfInBounds i true) a2 W2) a' W := by
        intro i hi hir Q'
        refine DInv.step hd hl hs hI (o := pre[i]) (by simp [hi]) (clo_ls hdn.pre i _ fun x hx => waits_ready hir x (by rw [waits_pre hi]; exact hx)) Q'
      have next : ∀ i, i < pre.length → i ∈ Region.ready .any (pre ++ tail).toArray l → ∀ a2 W2, DInv w0 pre sps a ts bs (l.setIfInBounds i true) a2 W2 → wpAny Try.prog .any (pre ++ tail).toArray Q fuel (l.setIfInBounds i true) a2 W2 := by
        intro i hi hir a2 W2 h
        refine ih _ a2 W2 (by have := unl_set (mem_ready.1 hir).1; omega) (by simpa using hs2) (hdn.set hir) (fun j hj hl2 => hno j hj (Ls.old hl2 (by omega))) h
      by_cases hfl : ∀ j, j < pre.length → ¬ Ls l j → floats3 (pre ++ tail) j = true
      · -- the least of what is left floats3: it may be taken first
        have hf1 := hfl m hm1 hm2
        have hom : (pre ++ tail)[m]? = some pre[m] := by rw [List.getElem?_append_left hm1]; simp [hm1]
        unfold floats3 at hf1
        rw [hom] at hf1
        simp only [Bool.and_eq_true] at hf1
        obtain ⟨hlt, hap⟩ := hf1
        have hopre : pre.toArray[m]? = some pre[m] := by simp [hm1]
        have hofull : (pre ++ tail).toArray[m]? = some pre[m] := by simpa using hom
        obtain ⟨v, hy, hk⟩ := light_yields3 hlt hopre (one m hm1 hmready)
        have hy2 : Yields Try.prog (pre ++ tail).toArray pre[m] v a' := by
          unfold lightOp3 at hlt
          rw [Bool.and_eq_true] at hlt
          have hgn : (pre[m]).guard = none := by simpa using hlt.2
          rcases hy with ⟨-, hv⟩ | ⟨h1, -⟩
          · exact .inl ⟨by simp [Region.wanted, hgn], hv⟩
          · simp [Region.wanted, hgn] at h1
        refine wpAny_first hofull (Region.noSelect_spec hsel) (fun c a w => hQ c a _ v w) fuel l a' W (fun j oj hj hne hunl hnw => ?_) hmready hy2 (next m hm1 hmready _ _ hk)
        have hjl : j < (pre ++ tail).length := by
          have := (Array.getElem?_eq_some_iff.1 hj).1
          simpa using this
        have h3 := List.all_eq_true.mp hap j (List.mem_range.mpr hjl)
        have hj2 : (pre ++ tail)[j]? = some oj := by simpa using hj
        rw [hj2] at h3
        simp only [Bool.or_eq_true, beq_iff_eq, hne, or_false] at h3
        rcases h3 with (h3 | h3) | h3
        · exact absurd (clo_ls hdn m _ (waits_ready hmready) j (of_decide_eq_true h3)) (ls_of hunl).1
        · obtain ⟨e, he, hb⟩ := Array.any_eq_true'.1 h3
          rw [Bool.and_eq_true] at hb
          exact absurd (by simpa using hb.2) (hnw e he hb.1)
        · exact h3
      · refine ⟨fun hr => ?_, fun i hi => ?_⟩
        · rw [hr] at hmready
          cases hmready
        · have hil : i < (pre ++ tail).length := by simpa using ready_lt hi
          by_cases hip : i < pre.length
          · exact wpOp_mono (fun a2 W2 h => next i hip hi a2 W2 h) (wpOp_tl (Q := Q) (tail := tail) hip hg (one i hip hi _))
          · exfalso
            refine hfl fun j hj hn => ?_
            rcases hfo i (by omega) hil j (by omega) with h | ⟨-, h⟩
            · exact absurd (clo_ls hdn i _ (waits_ready hi) j h) hn
            · exact h
  have e : (pre ++ tail).toArray.size = (pre ++ tail).length := by simp
  rw [e]
  have nol : ∀ i, ¬ Ls (Array.replicate (pre ++ tail).length false) i := by
    intro i h
    unfold Ls at h
    rw [Array.getD_eq_getD_getElem?, Array.getElem?_replicate] at h
    split at h <;> simp at h
  exact key _ _ a w.drew (by simpa using unl_start (pre ++ tail).length) (by simp) (fun j hj => absurd hj (nol j)) (fun j _ => nol j) (DInv.start Z.drew nol)
end
end Go.Proofs.Ytmbmbmkmjbpcpaa.PA


/- What the walks of Bezout want. -/
namespace Go.Proofs.Ytmbmbmkmjbpcpaa.PA
open Go Go.Proofs.Ytmbmbmkmjbpcpaa.Nums Go.RowKit Go.Proofs.YtmbmbmkmjbpcpaaW.PrintWords Go.Proofs.YtmbmbmkmjbpcpaaW.PrintLast Go.Proofs.YtmbmbmkmjbpcpaaW.PrintMore
set_option linter.unusedVariables false
set_option linter.unusedSimpArgs false
theorem wp_orders_k {P : Program} {Q : Exit → Act → World → Prop} {w0 w : World} {id : Nat} {ops : Array Oper} {a act' : Act} {ts ts' : List (Value × (World → Value → Prop))} {bs bs' : List (Nat × TypeId × Array Value)} (Z : Zt w0 w ts bs) (hm : P.follows .mixedOrders = true) (os : List (List Nat)) (hos : ordersFrom ops ops.size (Array.replicate ops.size false) = os)
    (h : (∀ W, Zt w0 W ts' bs' → Q .normal act' W) → ∀ W, Zt w0 W ts bs → ∀ o, o ∈ os → wpList P ops Q (o.filterMap (ops[·]?)) a W) (hk : ∀ W, Zt w0 W ts' bs' → Q .normal act' W) : (Code.region id ops true).wp P Q a w :=
  wp_orders Z hm os hos (h hk)
theorem sign_rng (z : Int) : -1 ≤ z.sign ∧ z.sign ≤ 1 := by
  rcases Int.lt_trichotomy z 0 with h | h | h
  · rw [Int.sign_eq_neg_one_of_neg h]; decide
  · subst h; decide
  · rw [Int.sign_eq_one_of_pos h]; decide
theorem bez_none {a b : Int} (h : b = 0) : ((a.natAbs : Nat) : Int) = bezG a b ∧ a.sign = bezX a b ∧ 0 = bezY a b := by
  subst h
  unfold bezG bezX bezY
  rw [if_pos rfl, if_pos rfl]
  exact ⟨by simp, rfl, rfl⟩
end Go.Proofs.Ytmbmbmkmjbpcpaa.PA

