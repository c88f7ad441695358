/- A region in whatever order, where operations that only hand a value on may also come later than the stores at its end; no program's code is named. -/
import Derived.Test.YtmbmbmkmjbpcpaaZDK
import Derived.Test.YtmbmbmkmjbpcpaaZEK
import Derived.Test.YtmbmbmkmjbpcpaaPAx0K
import Derived.Outline
namespace Go.Proofs.Ytmbmbmkmjbpcpaa.PA
open Go Go.Proofs.Ytmbmbmkmjbpcpaa.Nums Go.RowKit Go.Proofs.YtmbmbmkmjbpcpaaW.PrintWords Go.Proofs.YtmbmbmkmjbpcpaaW.PrintLast Go.Proofs.YtmbmbmkmjbpcpaaW.PrintMore
set_option linter.unusedVariables false
section
variable {P : Program} {Q : Exit → Act → World → Prop}
def DInv (w0 : World) (pre : List Oper) (sps : List Sp) (a : Act) (ts : List (Value × (World → Value → Prop))) (bs : List (Nat × TypeId × Array Value)) (l : Array Bool) (a' : Act) (W : World) : Prop :=
  Zt w0 W ts bs ∧ a'.defers = a.defers ∧ a'.tmps.size = a.tmps.size ∧
    (∀ d, who pre d = none → a'.tmps[d]? = a.tmps[d]?) ∧
    (∀ (i : Nat) (o : Oper) (s : Sp) (d : Tmp), Ls l i → pre[i]? = some o → o.dst = some d → sps[i]? = some s → ∃ v, a'.tmps[d]? = some v ∧ s.Ok w0 bs W v) ∧
    (∀ (i j : Nat) (oi oj : Oper) (si sj : Sp) (di dj : Tmp) (vi vj : Value), i ≠ j → Ls l i → Ls l j → pre[i]? = some oi → pre[j]? = some oj → sps[i]? = some si → sps[j]? = some sj → oi.dst = some di → oj.dst = some dj → a'.tmps[di]? = some vi → a'.tmps[dj]? = some vj → si.isBox = true → sj.isBox = true → vi ≠ vj)
theorem DInv.step {w0 : World} {pre : List Oper} {sps : List Sp} {a : Act} {ts : List (Value × (World → Value → Prop))} {bs : List (Nat × TypeId × Array Value)} (hd : dagOk pre a.tmps.size = true) (hl : pre.length = sps.length)
    (hs : StepsE P w0 pre sps a ts bs 0 pre sps) {l : Array Bool} {a' : Act} {W : World} (hI : DInv w0 pre sps a ts bs l a' W) {i : Nat} {o : Oper} (ho : pre[i]? = some o) (lsd : ∀ j, j ∈ clo pre i (waits pre i) → Ls l j) (Q' : Exit → Act → World → Prop) :
    wpOp P pre.toArray Q' i (fun a2 W2 => DInv w0 pre sps a ts bs (l.setIfInBounds i true) a2 W2) a' W := by
  obtain ⟨i3, i4, i5, i6, i7, i8⟩ := hI
  have lset : ∀ (l : Array Bool) (i j : Nat), Ls (l.setIfInBounds i true) j → i = j ∨ Ls l j := by
    intro l i j h
    by_cases e : i = j
    · exact .inl e
    · exact .inr (Ls.old h e)
  obtain ⟨⟨d, hd1, hd2, hd3⟩, hacy, heyes⟩ := dag_one hd ho
  obtain ⟨s, hs1, hs2⟩ := hs.one ho
  rw [Nat.zero_add] at hs2
  have hst := (hs2 a').run (W := W) (Q' := Q') (eyes pre o) ts i3 (fun d _ h => i6 d h) (fun d hd j hj => by
    obtain ⟨oj, h1, h2⟩ := who_some hj
    have hjl : j < sps.length := by rw [← hl]; exact (List.getElem?_eq_some_iff.mp h1).1
    obtain ⟨v, h3, h4⟩ := i7 j oj sps[j] d (lsd j (heyes d hd j hj)) h1 h2 (by simp [hjl])
    exact ⟨_, v, by simp [hjl], h3, h4⟩)
  refine wpOp_mono ?_ hst
  rintro a2 W2 ⟨v, rfl, hb, hnew⟩
  rw [hd1]
  have off : ∀ (j : Nat) (oj : Oper) (dj : Tmp), pre[j]? = some oj → oj.dst = some dj → i ≠ j → d ≠ dj := by
    intro j oj dj h1 h2 hne e
    subst e
    obtain ⟨⟨d', e1, e2, -⟩, -⟩ := dag_one hd h1
    rw [h2] at e1
    injection e1 with e1
    subst e1
    rw [hd2] at e2
    injection e2 with e2
    exact hne e2
  refine ⟨i3.step hb, i4, by simpa [Act.put] using i5, fun d' h' => ?_, fun j oj sj dj h1 h2 h3 h4 => ?_, ?_⟩
  · rw [put_off (by rintro rfl; rw [hd2] at h'; cases h')]
    exact i6 d' h'
  · rcases lset l i j h1 with rfl | h1
    · rw [ho] at h2
      injection h2 with h2
      subst h2
      rw [hd1] at h3
      injection h3 with h3
      subst h3
      rw [hs1] at h4
      injection h4 with h4
      subst h4
      exact ⟨v, put_at (by rw [i5]; exact hd3), hnew.ok i3⟩
    · by_cases e : i = j
      · subst e
        rw [ho] at h2
        injection h2 with h2
        subst h2
        rw [hd1] at h3
        injection h3 with h3
        subst h3
        rw [hs1] at h4
        injection h4 with h4
        subst h4
        exact ⟨v, put_at (by rw [i5]; exact hd3), hnew.ok i3⟩
      · obtain ⟨u, k1, k2⟩ := i7 j oj sj dj h1 h2 h3 h4
        exact ⟨u, by rw [put_off (off j oj dj h2 h3 e)]; exact k1, k2.step hb⟩
  · have one : ∀ (j : Nat) (oj : Oper) (sj : Sp) (dj : Tmp) (vj vi : Value), i ≠ j → Ls l j → pre[j]? = some oj → sps[j]? = some sj → oj.dst = some dj → (a'.put (some d) v).tmps[d]? = some vi → (a'.put (some d) v).tmps[dj]? = some vj → s.isBox = true → sj.isBox = true → vj ≠ vi := by
      intro j oj sj dj vj vi hne h1 h2 h3 h4 h5 h6 h7 h8
      rw [put_off (off j oj dj h2 h4 hne)] at h6
      rw [put_at (by rw [i5]; exact hd3)] at h5
      injection h5 with h5
      subst h5
      obtain ⟨u, k1, k2⟩ := i7 j oj sj dj h1 h2 h4 h3
      rw [h6] at k1
      injection k1 with k1
      subst k1
      exact hnew.far k2 h7 h8
    intro p q op oq sp sq dp dq vp vq hne hp hq h1 h2 h3 h4 h5 h6 h7 h8 h9 h10
    by_cases ep : i = p
    · subst ep
      rw [ho] at h1
      injection h1 with h1
      subst h1
      rw [hd1] at h5
      injection h5 with h5
      subst h5
      rw [hs1] at h3
      injection h3 with h3
      subst h3
      exact (one q oq sq dq vq vp hne (Ls.old hq hne) h2 h4 h6 h7 h8 h9 h10).symm
    · by_cases eq : i = q
      · subst eq
        rw [ho] at h2
        injection h2 with h2
        subst h2
        rw [hd1] at h6
        injection h6 with h6
        subst h6
        rw [hs1] at h4
        injection h4 with h4
        subst h4
        exact one p op sp dp vp vq ep (Ls.old hp ep) h1 h3 h5 h8 h7 h10 h9
      · rw [put_off (off p op dp h1 h5 ep)] at h7
        rw [put_off (off q oq dq h2 h6 eq)] at h8
        exact i8 p q op oq sp sq dp dq vp vq hne (Ls.old hp ep) (Ls.old hq eq) h1 h2 h3 h4 h5 h6 h7 h8 h9 h10
theorem DInv.fin {w0 : World} {pre : List Oper} {sps : List Sp} {a : Act} {ts : List (Value × (World → Value → Prop))} {bs : List (Nat × TypeId × Array Value)} {ops : Array Oper} {tail : List Oper} (hd : dagOk pre a.tmps.size = true) (hl : pre.length = sps.length)
    (hf : Fin P ops Q w0 tail pre sps ts bs a) {l : Array Bool} {a' : Act} {W : World} (hI : DInv w0 pre sps a ts bs l a' W) (hall : ∀ i, i < pre.length → Ls l i) : wpList P ops Q tail a' W := by
  obtain ⟨i3, i4, i5, i6, i7, i8⟩ := hI
  refine Fin.run pre sps ts bs a hl hf i3 (fun i o s h1 h2 => ?_) (fun i j oi oj si sj di dj vi vj hne h1 h2 h3 h4 => ?_) i4.symm i5.symm fun d hd' => ?_
  · obtain ⟨⟨d, hd1, hd2, hd3⟩, -⟩ := dag_one hd h1
    obtain ⟨v, h3, h4⟩ := i7 i o s d (hall i (List.getElem?_eq_some_iff.mp h1).1) h1 hd1 h2
    exact ⟨d, v, hd1, h3, h4⟩
  · exact i8 i j oi oj si sj di dj vi vj hne (hall i (List.getElem?_eq_some_iff.mp h1).1) (hall j (List.getElem?_eq_some_iff.mp h2).1) h1 h2 h3 h4
  · refine (i6 d ?_).symm
    cases hw : who pre d with
    | none => rfl
    | some j =>
      obtain ⟨o, h1, h2⟩ := who_some hw
      exact absurd h2 (hd' j o h1)
theorem DInv.start {w0 w : World} {pre : List Oper} {sps : List Sp} {a : Act} {ts : List (Value × (World → Value → Prop))} {bs : List (Nat × TypeId × Array Value)} (Z : Zt w0 w ts bs) {l : Array Bool} (nol : ∀ i, ¬ Ls l i) : DInv w0 pre sps a ts bs l a w :=
  ⟨Z, rfl, rfl, fun _ _ => rfl, fun i o s d h => absurd h (nol i), fun i j oi oj si sj di dj vi vj _ h => absurd h (nol i)⟩
theorem waits_pre {pre tail : List Oper} {i : Nat} (h : i < pre.length) : waits (pre ++ tail) i = waits pre i := by
  unfold waits
  rw [List.getElem?_append_left h]
theorem Down.pre {pre tail : List Oper} {l : Array Bool} (h : Down (pre ++ tail) l) : Down pre l := by
  intro j hj x hx
  by_cases hp : j < pre.length
  · exact h j hj x (by rw [waits_pre hp]; exact hx)
  · unfold waits at hx
    rw [List.getElem?_eq_none (by omega)] at hx
    cases hx
def ordersFrom (ops : Array Oper) : Nat → Array Bool → List (List Nat)
  | 0, _ => [[]]
  | f + 1, l => match Region.ready .any ops l with
    | [] => [[]]
    | i :: r => (i :: r).flatMap fun j => (ordersFrom ops f (l.setIfInBounds j true)).map (j :: ·)
theorem orders_mem {ops : Array Oper} : ∀ (fuel t : Nat) (l : Array Bool), Region.linearise.go .any ops fuel t l [] ∈ ordersFrom ops fuel l := by
  intro fuel
  induction fuel with
  | zero => intro t l; simp [Region.linearise.go, ordersFrom]
  | succ fuel ih =>
    intro t l
    simp only [Region.linearise.go, ordersFrom]
    change (match (Region.ready .any ops l)[t % (Region.ready .any ops l).length]? with
      | some i => Region.linearise.go .any ops fuel (t / (Region.ready .any ops l).length) (l.setIfInBounds i true) [i]
      | none => [].reverse) ∈ _
    cases hr : Region.ready .any ops l with
    | nil => simp
    | cons a r =>
      cases hi : (a :: r)[t % (a :: r).length]? with
      | none =>
        have hlt : t % (a :: r).length < (a :: r).length := Nat.mod_lt _ (by simp)
        simp at hi
        simp at hlt
        omega
      | some i =>
        simp only []
        rw [linearise_go_acc, List.reverse_singleton, List.singleton_append]
        exact List.mem_flatMap.mpr ⟨i, List.mem_of_getElem? hi, List.mem_map.mpr ⟨_, ih _ _, rfl⟩⟩
theorem wpOps_list {ops : Array Oper} : ∀ (l : List Nat), wpOps P ops Q l = wpList P ops Q (l.filterMap (ops[·]?)) := by
  intro l
  induction l with
  | nil => funext a w; rfl
  | cons i r ih =>
    funext a w
    cases h : ops[i]? with
    | none => simp [wpOps, h, ih]
    | some o => simp [wpOps, wpList, h, ih]
/-- a small region: each of its orders -/
theorem wp_orders {w0 w : World} {id : Nat} {ops : Array Oper} {a : Act} {ts : List (Value × (World → Value → Prop))} {bs : List (Nat × TypeId × Array Value)} (Z : Zt w0 w ts bs) (hm : P.follows .mixedOrders = true) (os : List (List Nat)) (hos : ordersFrom ops ops.size (Array.replicate ops.size false) = os)
    (h : ∀ W, Zt w0 W ts bs → ∀ o, o ∈ os → wpList P ops Q (o.filterMap (ops[·]?)) a W) : (Code.region id ops true).wp P Q a w :=
  wp_region_draw fun t => by
    simp only [Region.schedule, hm, Bool.true_or, if_true]
    rw [wpOps_list]
    refine h _ Z.drew _ ?_
    rw [← hos]
    exact orders_mem _ _ _
end
end Go.Proofs.Ytmbmbmkmjbpcpaa.PA


/- The laws of the quotients: plain; layer 1's quotient for a divisor that is not 0. -/
namespace Go.Proofs.Ytmbmbmkmjbpcpaa.PA
open Go Go.Proofs.Ytmbmbmkmjbpcpaa.Nums Go.RowKit Go.Proofs.YtmbmbmkmjbpcpaaW.PrintWords Go.Proofs.YtmbmbmkmjbpcpaaW.PrintLast Go.Proofs.YtmbmbmkmjbpcpaaW.PrintMore
set_option linter.unusedVariables false
theorem abs_ne {z : Int} (h : z ≠ 0) : ¬ ((z.natAbs : Nat) : Int) = 0 := by omega
theorem nat_Div.semN {w : World} {v1 v2 : Value} {x y : Int} (m1 : MagV w v1 x) (m2 : MagV w v2 y) (h0 : ¬ y = 0) : Calls Try.prog 89 #[v1, v2] w (ResMMi w (x / y) (x % y) (.int .i64 0)) := by
  have h := nat_Div.sem m1 m2
  simp only [if_neg h0] at h
  exact h
theorem trammelref01_Div.semN {w : World} {v1 v2 : Value} {x y : Int} (m1 : MagV w v1 x) (m2 : MagV w v2 y) (h0 : ¬ y = 0) : Calls Try.prog 92 #[v1, v2] w (ResMMi w (x / y) (x % y) (.int .i64 0)) := by
  have h := trammelref01_Div.sem m1 m2
  simp only [if_neg h0] at h
  exact h
theorem trunc_law {w : World} {b b2 : Bool} {v v2 : Value} {z z2 : Int} (h : NumV w b v z) (h2 : NumV w b2 v2 z2) (h0 : z2 ≠ 0) :
    zof b ((z.natAbs : Nat) % (z2.natAbs : Nat)) + z2 * zof (b != b2) ((z.natAbs : Nat) / (z2.natAbs : Nat)) = z ∧ (zof b ((z.natAbs : Nat) % (z2.natAbs : Nat))).natAbs < z2.natAbs := by
  have e := Int.emod_add_mul_ediv ((z.natAbs : Nat) : Int) ((z2.natAbs : Nat) : Int)
  have e1 := Int.emod_nonneg ((z.natAbs : Nat) : Int) (abs_ne h0)
  have e2 := Int.emod_lt_of_pos ((z.natAbs : Nat) : Int) (b := ((z2.natAbs : Nat) : Int)) (by omega)
  generalize ((z.natAbs : Nat) : Int) / ((z2.natAbs : Nat) : Int) = Q at *
  generalize ((z.natAbs : Nat) : Int) % ((z2.natAbs : Nat) : Int) = R at *
  rcases h.cases with ⟨rfl, k1⟩ | ⟨rfl, k1⟩ <;> rcases h2.cases with ⟨rfl, k2⟩ | ⟨rfl, k2⟩ <;> unfold zof <;> simp <;>
    (refine ⟨?_, by omega⟩) <;> (generalize z.natAbs = x at *) <;> (generalize z2.natAbs = y at *) <;> subst k1 <;> subst k2 <;> (try simp only [Int.neg_mul, Int.mul_neg, Int.neg_neg]) <;> omega
theorem mul_zof_sub {z q z2 : Int} : (z - q * z2) + z2 * q = z := by
  rw [Int.mul_comm q z2]
  omega
theorem floor_keep {a b q r : Int} (h0 : b ≠ 0) (h : r + b * q = a) (hr : r.natAbs < b.natAbs) (hs : r.sign = 0 ∨ r.sign = b.sign) : q = a.fdiv b ∧ r = a.fmod b := by
  rcases Int.lt_trichotomy b 0 with hb | hb | hb
  · have hr2 : r ≤ 0 := by
      rcases Int.lt_trichotomy r 0 with h1 | h1 | h1
      · omega
      · omega
      · rw [Int.sign_eq_one_of_pos h1, Int.sign_eq_neg_one_of_neg hb] at hs
        omega
    obtain ⟨e1, e2⟩ := (Int.fdiv_fmod_unique' hb).mpr ⟨h, by omega, hr2⟩
    exact ⟨e1.symm, e2.symm⟩
  · exact absurd hb h0
  · have hr2 : 0 ≤ r := by
      rcases Int.lt_trichotomy r 0 with h1 | h1 | h1
      · rw [Int.sign_eq_one_of_pos hb, Int.sign_eq_neg_one_of_neg h1] at hs
        omega
      · omega
      · omega
    obtain ⟨e1, e2⟩ := (Int.fdiv_fmod_unique hb).mpr ⟨h, hr2, by omega⟩
    exact ⟨e1.symm, e2.symm⟩
theorem floor_fix {a b q r : Int} (h0 : b ≠ 0) (h : r + b * q = a) (hr : r.natAbs < b.natAbs) (hs : r.sign ≠ 0) (hs2 : r.sign ≠ b.sign) : q - 1 = a.fdiv b ∧ r + b = a.fmod b := by
  have e : (r + b) + b * (q - 1) = a := by rw [Int.mul_sub, Int.mul_one]; omega
  rcases Int.lt_trichotomy b 0 with hb | hb | hb
  · have hr2 : 0 < r := by
      rcases Int.lt_trichotomy r 0 with h1 | h1 | h1
      · rw [Int.sign_eq_neg_one_of_neg h1, Int.sign_eq_neg_one_of_neg hb] at hs2
        omega
      · subst h1
        simp at hs
      · exact h1
    obtain ⟨e1, e2⟩ := (Int.fdiv_fmod_unique' hb).mpr ⟨e, by omega, by omega⟩
    exact ⟨e1.symm, e2.symm⟩
  · exact absurd hb h0
  · have hr2 : r < 0 := by
      rcases Int.lt_trichotomy r 0 with h1 | h1 | h1
      · exact h1
      · subst h1
        simp at hs
      · rw [Int.sign_eq_one_of_pos h1, Int.sign_eq_one_of_pos hb] at hs2
        omega
    obtain ⟨e1, e2⟩ := (Int.fdiv_fmod_unique hb).mpr ⟨e, by omega, by omega⟩
    exact ⟨e1.symm, e2.symm⟩
theorem fdiv_bd {k : Nat} {a b : Int} (h : Bd k a) : Bd (k + 1) (a.fdiv b) := by
  have h1 := h.div (Bd.lit (k := b.natAbs) (z := b) Nat.lt_two_pow_self)
  unfold Bd at *
  by_cases hb : b = 0
  · subst hb
    simp
    exact Nat.pow_pos (by omega)
  · have e3 : (a.fdiv b).natAbs ≤ a.natAbs := by
      have k1 := Int.fmod_add_mul_fdiv a b
      rcases Int.lt_trichotomy b 0 with h2 | h2 | h2
      · obtain ⟨-, k2, k3⟩ := (Int.fdiv_fmod_unique' (a := a) h2).mp ⟨rfl, rfl⟩
        generalize a.fdiv b = q at *
        generalize a.fmod b = r at *
        rcases Int.lt_or_le q 0 with hq | hq
        · have : 1 * (-q - 1) ≤ (-b) * (-q - 1) := Int.mul_le_mul_of_nonneg_right (by omega) (by omega)
          simp only [Int.mul_sub, Int.mul_one, Int.neg_mul_neg, Int.one_mul] at this
          omega
        · have : 1 * q ≤ (-b) * q := Int.mul_le_mul_of_nonneg_right (by omega) hq
          rw [Int.neg_mul] at this
          omega
      · exact absurd h2 hb
      · obtain ⟨-, k2, k3⟩ := (Int.fdiv_fmod_unique (a := a) h2).mp ⟨rfl, rfl⟩
        generalize a.fdiv b = q at *
        generalize a.fmod b = r at *
        rcases Int.lt_or_le q 0 with hq | hq
        · have : 1 * (-q - 1) ≤ b * (-q - 1) := Int.mul_le_mul_of_nonneg_right (by omega) (by omega)
          simp only [Int.mul_sub, Int.mul_one, Int.mul_neg, Int.one_mul] at this
          omega
        · have : 1 * q ≤ b * q := Int.mul_le_mul_of_nonneg_right (by omega) (by omega)
          omega
    have := Nat.lt_two_pow_self (n := k)
    rw [Nat.pow_succ]
    omega
theorem fmod_bd {k l : Nat} {a b : Int} (h0 : b ≠ 0) (h2 : Bd l b) : Bd l (a.fmod b) := by
  refine h2.of_le ?_
  rcases Int.lt_trichotomy b 0 with h | h | h
  · obtain ⟨-, k2, k3⟩ := (Int.fdiv_fmod_unique' (a := a) h).mp ⟨rfl, rfl⟩
    omega
  · exact absurd h h0
  · obtain ⟨-, k2, k3⟩ := (Int.fdiv_fmod_unique (a := a) h).mp ⟨rfl, rfl⟩
    omega
end Go.Proofs.Ytmbmbmkmjbpcpaa.PA


/- Walks of Floor. -/
namespace Go.Proofs.Ytmbmbmkmjbpcpaa.PA
open Go Go.Proofs.Ytmbmbmkmjbpcpaa.Nums Go.RowKit Go.Proofs.YtmbmbmkmjbpcpaaW.PrintWords Go.Proofs.YtmbmbmkmjbpcpaaW.PrintLast Go.Proofs.YtmbmbmkmjbpcpaaW.PrintMore
set_option linter.unusedVariables false
set_option linter.unusedSimpArgs false
theorem ref_law {z z2 q r : Int} (T : r + z2 * q = z ∧ r.natAbs < z2.natAbs) : (z - q * z2) + z2 * q = z ∧ (z - q * z2).natAbs < z2.natAbs := by
  refine ⟨mul_zof_sub, ?_⟩
  have : z - q * z2 = r := by
    have := T.1
    rw [Int.mul_comm q z2]
    omega
  rw [this]
  exact T.2
set_option maxHeartbeats 4000000 in
set_option maxRecDepth 100000 in
theorem trammelref02_Floor.sem {w : World} {b1 : Bool} {v1 : Value} {z1 : Int} {b2 : Bool} {v2 : Value} {z2 : Int} (m1 : NumV w b1 v1 z1) (m2 : NumV w b2 v2 z2) (hb1 : Bd 150000000 z1) (hb2 : Bd 150000000 z2) (h0 : z2 ≠ 0) : Calls Try.prog 55 #[.agg #[.bool b1, v1], .agg #[.bool b2, v2]] w (ResII w (z1.fdiv z2) (z1.fmod z2)) := by
  obtain ⟨A1, n1, c1, rfl⟩ := m1.form
  obtain ⟨A2, n2, c2, rfl⟩ := m2.form
  have Z := Zt.begin2 m1 m2
  have T0 := trunc_law m1 m2 h0
  have T := ref_law T0
  go_enter Try.func55, Try.ntmps55
  refine wp_seq ?_
  refine wp_region_list ?_
  refine seq_box Z rfl rfl rfl ?_; clear Z; intro g1 W Z
  (try simp only [Act.put, List.setIfInBounds_toArray, List.set_cons_zero, List.set_cons_succ])
  refine seq_box Z rfl rfl rfl ?_; clear Z; intro g2 W Z
  (try simp only [Act.put, List.setIfInBounds_toArray, List.set_cons_zero, List.set_cons_succ])
  refine seq_alloc Z rfl rfl ?_; clear Z; intro g3 W Z
  (try simp only [Act.put, List.setIfInBounds_toArray, List.set_cons_zero, List.set_cons_succ])
  refine seq_alloc Z rfl rfl ?_; clear Z; intro g4 W Z
  (try simp only [Act.put, List.setIfInBounds_toArray, List.set_cons_zero, List.set_cons_succ])
  show Code.wp _ _ _ _ _
  refine wp_seq ?_
  refine wp_region_list ?_
  refine seq_is (v := .pointer (some ⟨g1, 1, none⟩)) rfl (run_field1 rfl rfl) ?_
  (try simp only [Act.put, List.setIfInBounds_toArray, List.set_cons_zero, List.set_cons_succ])
  refine seq_is (v := .slice A1 n1 c1) rfl (run_loadM rfl rfl (Z.bx 3 rfl)) ?_
  (try simp only [Act.put, List.setIfInBounds_toArray, List.set_cons_zero, List.set_cons_succ])
  refine seq_is (v := .pointer (some ⟨g2, 1, none⟩)) rfl (run_field1 rfl rfl) ?_
  (try simp only [Act.put, List.setIfInBounds_toArray, List.set_cons_zero, List.set_cons_succ])
  refine seq_is (v := .slice A2 n2 c2) rfl (run_loadM rfl rfl (Z.bx 2 rfl)) ?_
  (try simp only [Act.put, List.setIfInBounds_toArray, List.set_cons_zero, List.set_cons_succ])
  refine seq_call Z rfl rfl Try.func92 rfl rfl (args2 rfl rfl) (Z.callMMi (trammelref01_Div.semN (Z.num 0 rfl).mag (Z.num 1 rfl).mag (abs_ne h0))) ?_; clear Z; intro x5 W Z
  (try simp only [Act.put, List.setIfInBounds_toArray, List.set_cons_zero, List.set_cons_succ])
  refine seq_is (v := .tuple #[x5.1.v, x5.2.v, .int .i64 (0)]) rfl (run_move rfl rfl) ?_
  (try simp only [Act.put, List.setIfInBounds_toArray, List.set_cons_zero, List.set_cons_succ])
  refine seq_is (v := x5.1.v) rfl (run_extract rfl rfl rfl) ?_
  (try simp only [Act.put, List.setIfInBounds_toArray, List.set_cons_zero, List.set_cons_succ])
  refine seq_is (v := x5.2.v) rfl (run_extract rfl rfl rfl) ?_
  (try simp only [Act.put, List.setIfInBounds_toArray, List.set_cons_zero, List.set_cons_succ])
  refine seq_is (v := .int .i64 (0)) rfl (run_extract rfl rfl rfl) ?_
  (try simp only [Act.put, List.setIfInBounds_toArray, List.set_cons_zero, List.set_cons_succ])
  refine seq_is (v := x5.1.v) rfl (run_assign rfl rfl) ?_
  (try simp only [Act.put, List.setIfInBounds_toArray, List.set_cons_zero, List.set_cons_succ])
  refine seq_is (v := x5.2.v) rfl (run_assign rfl rfl) ?_
  (try simp only [Act.put, List.setIfInBounds_toArray, List.set_cons_zero, List.set_cons_succ])
  refine seq_is (v := .int .i64 (0)) rfl (run_assign rfl rfl) ?_
  (try simp only [Act.put, List.setIfInBounds_toArray, List.set_cons_zero, List.set_cons_succ])
  show Code.wp _ _ _ _ _
  refine wp_seq ?_
  refine wp_region_list ?_
  refine seq_is (v := .pointer (some ⟨g1, 0, none⟩)) rfl (run_field0 rfl rfl) ?_
  (try simp only [Act.put, List.setIfInBounds_toArray, List.set_cons_zero, List.set_cons_succ])
  refine seq_is (v := .bool (b1)) rfl (run_loadN rfl rfl (Z.bx 3 rfl)) ?_
  (try simp only [Act.put, List.setIfInBounds_toArray, List.set_cons_zero, List.set_cons_succ])
  refine seq_is (v := .pointer (some ⟨g2, 0, none⟩)) rfl (run_field0 rfl rfl) ?_
  (try simp only [Act.put, List.setIfInBounds_toArray, List.set_cons_zero, List.set_cons_succ])
  refine seq_is (v := .bool (b2)) rfl (run_loadN rfl rfl (Z.bx 2 rfl)) ?_
  (try simp only [Act.put, List.setIfInBounds_toArray, List.set_cons_zero, List.set_cons_succ])
  refine seq_is (v := .bool ((b1) != (b2))) rfl (run_neqB rfl rfl rfl) ?_
  (try simp only [Act.put, List.setIfInBounds_toArray, List.set_cons_zero, List.set_cons_succ])
  refine seq_is (v := x5.1.v) rfl (run_move rfl rfl) ?_
  (try simp only [Act.put, List.setIfInBounds_toArray, List.set_cons_zero, List.set_cons_succ])
  refine seq_call Z rfl rfl Try.func73 rfl rfl (args2 rfl rfl) (Z.callI (trammelref02_made.res (Z.ownM 0 rfl (Int.ediv_nonneg (by omega) (by omega)) (Bd.fm (Bd.div (Bd.abs hb1) (Bd.abs hb2)) (by decide))))) ?_; clear Z; intro x6 W Z
  (try simp only [Act.put, List.setIfInBounds_toArray, List.set_cons_zero, List.set_cons_succ])
  refine seq_alloc Z rfl rfl ?_; clear Z; intro g7 W Z
  (try simp only [Act.put, List.setIfInBounds_toArray, List.set_cons_zero, List.set_cons_succ])
  refine seq_store Z 0 rfl rfl rfl rfl rfl ?_; clear Z; intro W Z
  (try simp only [Act.put, List.setIfInBounds_toArray, List.set_cons_zero, List.set_cons_succ])
  show Code.wp _ _ _ _ _
  refine wp_seq ?_
  refine wp_dag (pre := [_, _, _, _, _, _]) (sps := [.is (.agg #[.bool (b1), .slice A1 n1 c1]), .is (.agg #[.bool (decide (zof ((b1) != (b2)) (((z1).natAbs : Nat) / ((z2).natAbs : Nat)) < 0)), x6.v]), .is (.agg #[.bool (b2), .slice A2 n2 c2]), spI w ((zof ((b1) != (b2)) (((z1).natAbs : Nat) / ((z2).natAbs : Nat))) * (z2)), spI w ((z1) - ((zof ((b1) != (b2)) (((z1).natAbs : Nat) / ((z2).natAbs : Nat))) * (z2))), .box 25 #[.bool false, .slice none 0 0]]) Z (by kernel_rfl) _ rfl (by kernel_rfl) (by kernel_rfl) rfl ⟨?_, ?_, ?_, ?_, ?_, ?_, trivial⟩ ?_
  · intro a e8 W Q Z; exact step_is (fun _ h => op_plain rfl rfl h) (run_load2 rfl (ev e8) (Z.bx 4 rfl))
  · intro a e10 W Q Z; exact step_is (fun _ h => op_plain rfl rfl h) (run_load2 rfl (ev e10) (Z.bx 0 rfl))
  · intro a e12 W Q Z; exact step_is (fun _ h => op_plain rfl rfl h) (run_load2 rfl (ev e12) (Z.bx 3 rfl))
  · intro a x14 e15 x16 e17 W Q Z; exact step_call (fun _ h => op_plain rfl rfl h) rfl Try.func24 rfl rfl (args2 (ev e15) (ev e17)) (Z.callI (trammelref02_Mul.sem (Z.own 0 rfl (Bd.fm (Bd.abs (Bd.zof (Bd.div (Bd.abs hb1) (Bd.abs hb2)))) (by decide))) (Z.num 4 rfl) (Bd.fm (Bd.mul (Bd.abs (Bd.zof (Bd.div (Bd.abs hb1) (Bd.abs hb2)))) (Bd.abs hb2)) (by decide)) ))
  · intro a x19 e20 x21 e22 W Q Z; exact step_call (fun _ h => op_plain rfl rfl h) rfl Try.func22 rfl rfl (args2 (ev e20) (ev e22)) (Z.callI (trammelref02_Sub.sem (Z.num 4 rfl) (Z.own 0 rfl (Bd.fm (Bd.abs (Bd.mul (Bd.zof (Bd.div (Bd.abs hb1) (Bd.abs hb2))) hb2)) (by decide))) (Bd.fm (Bd.abs (Bd.neg (Bd.mul (Bd.zof (Bd.div (Bd.abs hb1) (Bd.abs hb2))) hb2))) (by decide)) (Bd.fm (Bd.add (Bd.abs hb1) (Bd.abs (Bd.neg (Bd.mul (Bd.zof (Bd.div (Bd.abs hb1) (Bd.abs hb2))) hb2)))) (by decide)) (Bd.fm (Bd.sub (Bd.abs hb1) (Bd.abs (Bd.neg (Bd.mul (Bd.zof (Bd.div (Bd.abs hb1) (Bd.abs hb2))) hb2)))) (by decide)) (Bd.fm (Bd.sub (Bd.abs (Bd.neg (Bd.mul (Bd.zof (Bd.div (Bd.abs hb1) (Bd.abs hb2))) hb2))) (Bd.abs hb1)) (by decide)) ))
  · intro a W Q Z; exact step_box (fun _ h => op_plain rfl rfl h) (by decide) (run_alloc2 rfl)
  clear Z; intro x9 x11 x13 x18 x23 g24 W Z
  (try simp only [Act.put, List.setIfInBounds_toArray, List.set_cons_zero, List.set_cons_succ])
  refine seq_store Z 0 rfl rfl rfl rfl rfl ?_; clear Z; intro W Z
  (try simp only [Act.put, List.setIfInBounds_toArray, List.set_cons_zero, List.set_cons_succ])
  show Code.wp _ _ _ _ _
  refine wp_seq ?_
  refine wp_seq ?_
  rcases Bool.eq_false_or_eq_true (decide ((((z1) - ((zof ((b1) != (b2)) (((z1).natAbs : Nat) / ((z2).natAbs : Nat))) * (z2))).sign) ≠ (0))) with hk39 | hk39
  · refine wp_dag (pre := [_, _, _, _, _, _, _, _, _, _]) (sps := [.is (.agg #[.bool (decide ((z1) - ((zof ((b1) != (b2)) (((z1).natAbs : Nat) / ((z2).natAbs : Nat))) * (z2)) < 0)), x23.v]), .is (.int .i64 (((z1) - ((zof ((b1) != (b2)) (((z1).natAbs : Nat) / ((z2).natAbs : Nat))) * (z2))).sign)), .is (.bool (decide ((((z1) - ((zof ((b1) != (b2)) (((z1).natAbs : Nat) / ((z2).natAbs : Nat))) * (z2))).sign) ≠ (0)))), .is (.bool (decide ((((z1) - ((zof ((b1) != (b2)) (((z1).natAbs : Nat) / ((z2).natAbs : Nat))) * (z2))).sign) ≠ (0)))), .is (.agg #[.bool (decide ((z1) - ((zof ((b1) != (b2)) (((z1).natAbs : Nat) / ((z2).natAbs : Nat))) * (z2)) < 0)), x23.v]), .is (.int .i64 (((z1) - ((zof ((b1) != (b2)) (((z1).natAbs : Nat) / ((z2).natAbs : Nat))) * (z2))).sign)), .is (.agg #[.bool (b2), .slice A2 n2 c2]), .is (.int .i64 ((z2).sign)), .is (.bool (decide ((((z1) - ((zof ((b1) != (b2)) (((z1).natAbs : Nat) / ((z2).natAbs : Nat))) * (z2))).sign) ≠ ((z2).sign)))), .is (.bool (decide ((((z1) - ((zof ((b1) != (b2)) (((z1).natAbs : Nat) / ((z2).natAbs : Nat))) * (z2))).sign) ≠ ((z2).sign))))]) Z (by kernel_rfl) _ rfl (by kernel_rfl) (by kernel_rfl) rfl ⟨?_, ?_, ?_, ?_, ?_, ?_, ?_, ?_, ?_, ?_, trivial⟩ ?_
    · intro a e40 W Q Z; exact step_is (fun _ h => op_plain rfl rfl h) (run_load2 rfl (ev e40) (Z.bx 0 rfl))
    · intro a x42 e43 W Q Z; exact step_call (fun _ h => op_plain rfl rfl h) rfl Try.func37 rfl rfl (args1 (ev e43)) (Z.callV (trammelref02_Sign.sem (Z.own 0 rfl (Bd.fm (Bd.abs (Bd.sub hb1 (Bd.mul (Bd.zof (Bd.div (Bd.abs hb1) (Bd.abs hb2))) hb2))) (by decide))) (Bd.fm (Bd.abs (Bd.sub hb1 (Bd.mul (Bd.zof (Bd.div (Bd.abs hb1) (Bd.abs hb2))) hb2))) (by decide)) ))
    · intro a x45 e46 W Q Z; exact step_is (fun _ h => op_plain rfl rfl h) (run_neq rfl (ev e46) rfl)
    · intro a x48 e49 W Q Z; exact step_is (fun _ h => op_plain rfl rfl h) (run_move rfl (ev e49))
    · intro a x51 e52 e53 W Q Z; exact step_is (fun _ h => op_want rfl rfl rfl (e52.trans (congrArg some (congrArg Value.bool hk39))) h) (run_load2 rfl (ev e53) (Z.bx 0 rfl))
    · intro a x55 e56 x57 e58 W Q Z; exact step_call (fun _ h => op_want rfl rfl rfl (e56.trans (congrArg some (congrArg Value.bool hk39))) h) rfl Try.func37 rfl rfl (args1 (ev e58)) (Z.callV (trammelref02_Sign.sem (Z.own 0 rfl (Bd.fm (Bd.abs (Bd.sub hb1 (Bd.mul (Bd.zof (Bd.div (Bd.abs hb1) (Bd.abs hb2))) hb2))) (by decide))) (Bd.fm (Bd.abs (Bd.sub hb1 (Bd.mul (Bd.zof (Bd.div (Bd.abs hb1) (Bd.abs hb2))) hb2))) (by decide)) ))
    · intro a x60 e61 e62 W Q Z; exact step_is (fun _ h => op_want rfl rfl rfl (e61.trans (congrArg some (congrArg Value.bool hk39))) h) (run_load2 rfl (ev e62) (Z.bx 4 rfl))
    · intro a x64 e65 x66 e67 W Q Z; exact step_call (fun _ h => op_want rfl rfl rfl (e65.trans (congrArg some (congrArg Value.bool hk39))) h) rfl Try.func37 rfl rfl (args1 (ev e67)) (Z.callV (trammelref02_Sign.sem (Z.num 6 rfl) (Bd.fm (Bd.abs hb2) (by decide)) ))
    · intro a x69 e70 x71 e72 x73 e74 W Q Z; exact step_is (fun _ h => op_want rfl rfl rfl (e70.trans (congrArg some (congrArg Value.bool hk39))) h) (run_neq rfl (ev e72) (ev e74))
    · intro a x76 e77 x78 e79 W Q Z; exact step_is (fun _ h => op_plain rfl rfl h) (run_pickT rfl ((show _ = Value.bool (decide ((((z1) - ((zof ((b1) != (b2)) (((z1).natAbs : Nat) / ((z2).natAbs : Nat))) * (z2))).sign) ≠ (0))) from (ev e77)).trans (congrArg Value.bool hk39)) (ev e79))
    clear Z; intro x41 x44 x47 x50 x54 x59 x63 x68 x75 x80 W Z
    (try simp only [Act.put, List.setIfInBounds_toArray, List.set_cons_zero, List.set_cons_succ])
    show Code.wp _ _ _ _ _
    refine wp_cond_split (t := decide ((((z1) - ((zof ((b1) != (b2)) (((z1).natAbs : Nat) / ((z2).natAbs : Nat))) * (z2))).sign) ≠ ((z2).sign))) rfl ?_ ?_
    · intro hc81
      refine wp_seq ?_
      refine wp_dag (pre := [_, _, _]) (sps := [.is (.agg #[.bool (decide (zof ((b1) != (b2)) (((z1).natAbs : Nat) / ((z2).natAbs : Nat)) < 0)), x6.v]), spI w (1), spI w ((zof ((b1) != (b2)) (((z1).natAbs : Nat) / ((z2).natAbs : Nat))) - (1))]) Z (by kernel_rfl) _ rfl (by kernel_rfl) (by kernel_rfl) rfl ⟨?_, ?_, ?_, trivial⟩ ?_
      · intro a e82 W Q Z; exact step_is (fun _ h => op_plain rfl rfl h) (run_load2 rfl (ev e82) (Z.bx 1 rfl))
      · intro a W Q Z; exact step_call (fun _ h => op_plain rfl rfl h) rfl Try.func31 rfl rfl (args1 rfl) (Z.callI (trammelref02_Of.sem (by omega) (by omega)))
      · intro a x85 e86 x87 e88 W Q Z; exact step_call (fun _ h => op_plain rfl rfl h) rfl Try.func22 rfl rfl (args2 (ev e86) (ev e88)) (Z.callI (trammelref02_Sub.sem (Z.own 3 rfl (Bd.fm (Bd.abs (Bd.zof (Bd.div (Bd.abs hb1) (Bd.abs hb2)))) (by decide))) (Z.own 0 rfl (Bd.fm (Bd.abs (Bd.lit (k := 64) (by decide))) (by decide))) (Bd.fm (Bd.abs (Bd.neg (Bd.lit (k := 64) (by decide)))) (by decide)) (Bd.fm (Bd.add (Bd.abs (Bd.zof (Bd.div (Bd.abs hb1) (Bd.abs hb2)))) (Bd.abs (Bd.neg (Bd.lit (k := 64) (by decide))))) (by decide)) (Bd.fm (Bd.sub (Bd.abs (Bd.zof (Bd.div (Bd.abs hb1) (Bd.abs hb2)))) (Bd.abs (Bd.neg (Bd.lit (k := 64) (by decide))))) (by decide)) (Bd.fm (Bd.sub (Bd.abs (Bd.neg (Bd.lit (k := 64) (by decide)))) (Bd.abs (Bd.zof (Bd.div (Bd.abs hb1) (Bd.abs hb2))))) (by decide)) ))
      clear Z; intro x83 x84 x89 W Z
      (try simp only [Act.put, List.setIfInBounds_toArray, List.set_cons_zero, List.set_cons_succ])
      refine seq_store Z 1 rfl rfl rfl rfl rfl ?_; clear Z; intro W Z
      (try simp only [Act.put, List.setIfInBounds_toArray, List.set_cons_zero, List.set_cons_succ])
      show Code.wp _ _ _ _ _
      refine wp_region_list ?_
      refine seq_is (v := .agg #[.bool (decide ((z1) - ((zof ((b1) != (b2)) (((z1).natAbs : Nat) / ((z2).natAbs : Nat))) * (z2)) < 0)), x23.v]) rfl (run_load2 rfl rfl (Z.bx 0 rfl)) ?_
      (try simp only [Act.put, List.setIfInBounds_toArray, List.set_cons_zero, List.set_cons_succ])
      refine seq_is (v := .agg #[.bool (b2), .slice A2 n2 c2]) rfl (run_load2 rfl rfl (Z.bx 4 rfl)) ?_
      (try simp only [Act.put, List.setIfInBounds_toArray, List.set_cons_zero, List.set_cons_succ])
      refine seq_call Z rfl rfl Try.func20 rfl rfl (args2 rfl rfl) (Z.callI (trammelref02_Add.sem (Z.own 2 rfl (Bd.fm (Bd.abs (Bd.sub hb1 (Bd.mul (Bd.zof (Bd.div (Bd.abs hb1) (Bd.abs hb2))) hb2))) (by decide))) (Z.num 8 rfl) (Bd.fm (Bd.add (Bd.abs (Bd.sub hb1 (Bd.mul (Bd.zof (Bd.div (Bd.abs hb1) (Bd.abs hb2))) hb2))) (Bd.abs hb2)) (by decide)) (Bd.fm (Bd.sub (Bd.abs (Bd.sub hb1 (Bd.mul (Bd.zof (Bd.div (Bd.abs hb1) (Bd.abs hb2))) hb2))) (Bd.abs hb2)) (by decide)) (Bd.fm (Bd.sub (Bd.abs hb2) (Bd.abs (Bd.sub hb1 (Bd.mul (Bd.zof (Bd.div (Bd.abs hb1) (Bd.abs hb2))) hb2)))) (by decide)) )) ?_; clear Z; intro x90 W Z
      (try simp only [Act.put, List.setIfInBounds_toArray, List.set_cons_zero, List.set_cons_succ])
      refine seq_store Z 0 rfl rfl rfl rfl rfl ?_; clear Z; intro W Z
      (try simp only [Act.put, List.setIfInBounds_toArray, List.set_cons_zero, List.set_cons_succ])
      show Code.wp _ _ _ _ _
      refine wp_seq ?_
      refine wp_orders Z (by kernel_rfl) [[0, 1, 2, 3], [0, 2, 1, 3], [1, 0, 2, 3]] (by kernel_rfl) ?_; clear Z; intro W Z o ho
      simp only [List.mem_cons, List.not_mem_nil, or_false] at ho; rcases ho with rfl | rfl | rfl
      · show wpList _ _ _ [_, _, _, _] _ _
        refine seq_is (v := .agg #[.bool (decide ((zof ((b1) != (b2)) (((z1).natAbs : Nat) / ((z2).natAbs : Nat))) - (1) < 0)), x89.v]) rfl (run_load2 rfl rfl (Z.bx 1 rfl)) ?_
        (try simp only [Act.put, List.setIfInBounds_toArray, List.set_cons_zero, List.set_cons_succ])
        refine seq_is (v := .agg #[.bool (decide (((z1) - ((zof ((b1) != (b2)) (((z1).natAbs : Nat) / ((z2).natAbs : Nat))) * (z2))) + (z2) < 0)), x90.v]) rfl (run_load2 rfl rfl (Z.bx 0 rfl)) ?_
        (try simp only [Act.put, List.setIfInBounds_toArray, List.set_cons_zero, List.set_cons_succ])
        refine seq_store Z 3 rfl rfl rfl rfl rfl ?_; clear Z; intro W Z
        (try simp only [Act.put, List.setIfInBounds_toArray, List.set_cons_zero, List.set_cons_succ])
        refine seq_store Z 2 rfl rfl rfl rfl rfl ?_; clear Z; intro W Z
        (try simp only [Act.put, List.setIfInBounds_toArray, List.set_cons_zero, List.set_cons_succ])
        show Code.wp _ _ _ _ _
        refine wp_ret ?_
        exact Z.endsII (d := 0) (u' := undef) (x' := 0) 3 1 2 0 rfl rfl rfl rfl rfl rfl rfl rfl (by exact (floor_fix h0 T.1 T.2 (of_decide_eq_true hk39) (of_decide_eq_true hc81)).1) (by exact (floor_fix h0 T.1 T.2 (of_decide_eq_true hk39) (of_decide_eq_true hc81)).2)
      · show wpList _ _ _ [_, _, _, _] _ _
        refine seq_is (v := .agg #[.bool (decide ((zof ((b1) != (b2)) (((z1).natAbs : Nat) / ((z2).natAbs : Nat))) - (1) < 0)), x89.v]) rfl (run_load2 rfl rfl (Z.bx 1 rfl)) ?_
        (try simp only [Act.put, List.setIfInBounds_toArray, List.set_cons_zero, List.set_cons_succ])
        refine seq_store Z 3 rfl rfl rfl rfl rfl ?_; clear Z; intro W Z
        (try simp only [Act.put, List.setIfInBounds_toArray, List.set_cons_zero, List.set_cons_succ])
        refine seq_is (v := .agg #[.bool (decide (((z1) - ((zof ((b1) != (b2)) (((z1).natAbs : Nat) / ((z2).natAbs : Nat))) * (z2))) + (z2) < 0)), x90.v]) rfl (run_load2 rfl rfl (Z.bx 0 rfl)) ?_
        (try simp only [Act.put, List.setIfInBounds_toArray, List.set_cons_zero, List.set_cons_succ])
        refine seq_store Z 2 rfl rfl rfl rfl rfl ?_; clear Z; intro W Z
        (try simp only [Act.put, List.setIfInBounds_toArray, List.set_cons_zero, List.set_cons_succ])
        show Code.wp _ _ _ _ _
        refine wp_ret ?_
        exact Z.endsII (d := 0) (u' := undef) (x' := 0) 3 1 2 0 rfl rfl rfl rfl rfl rfl rfl rfl (by exact (floor_fix h0 T.1 T.2 (of_decide_eq_true hk39) (of_decide_eq_true hc81)).1) (by exact (floor_fix h0 T.1 T.2 (of_decide_eq_true hk39) (of_decide_eq_true hc81)).2)
      · show wpList _ _ _ [_, _, _, _] _ _
        refine seq_is (v := .agg #[.bool (decide (((z1) - ((zof ((b1) != (b2)) (((z1).natAbs : Nat) / ((z2).natAbs : Nat))) * (z2))) + (z2) < 0)), x90.v]) rfl (run_load2 rfl rfl (Z.bx 0 rfl)) ?_
        (try simp only [Act.put, List.setIfInBounds_toArray, List.set_cons_zero, List.set_cons_succ])
        refine seq_is (v := .agg #[.bool (decide ((zof ((b1) != (b2)) (((z1).natAbs : Nat) / ((z2).natAbs : Nat))) - (1) < 0)), x89.v]) rfl (run_load2 rfl rfl (Z.bx 1 rfl)) ?_
        (try simp only [Act.put, List.setIfInBounds_toArray, List.set_cons_zero, List.set_cons_succ])
        refine seq_store Z 3 rfl rfl rfl rfl rfl ?_; clear Z; intro W Z
        (try simp only [Act.put, List.setIfInBounds_toArray, List.set_cons_zero, List.set_cons_succ])
        refine seq_store Z 2 rfl rfl rfl rfl rfl ?_; clear Z; intro W Z
        (try simp only [Act.put, List.setIfInBounds_toArray, List.set_cons_zero, List.set_cons_succ])
        show Code.wp _ _ _ _ _
        refine wp_ret ?_
        exact Z.endsII (d := 0) (u' := undef) (x' := 0) 3 1 2 0 rfl rfl rfl rfl rfl rfl rfl rfl (by exact (floor_fix h0 T.1 T.2 (of_decide_eq_true hk39) (of_decide_eq_true hc81)).1) (by exact (floor_fix h0 T.1 T.2 (of_decide_eq_true hk39) (of_decide_eq_true hc81)).2)
    · intro hc81
      refine wp_skip ?_
      show Code.wp _ _ _ _ _
      refine wp_seq ?_
      refine wp_orders Z (by kernel_rfl) [[0, 1, 2, 3], [0, 2, 1, 3], [1, 0, 2, 3]] (by kernel_rfl) ?_; clear Z; intro W Z o ho
      simp only [List.mem_cons, List.not_mem_nil, or_false] at ho; rcases ho with rfl | rfl | rfl
      · show wpList _ _ _ [_, _, _, _] _ _
        refine seq_is (v := .agg #[.bool (decide (zof ((b1) != (b2)) (((z1).natAbs : Nat) / ((z2).natAbs : Nat)) < 0)), x6.v]) rfl (run_load2 rfl rfl (Z.bx 1 rfl)) ?_
        (try simp only [Act.put, List.setIfInBounds_toArray, List.set_cons_zero, List.set_cons_succ])
        refine seq_is (v := .agg #[.bool (decide ((z1) - ((zof ((b1) != (b2)) (((z1).natAbs : Nat) / ((z2).natAbs : Nat))) * (z2)) < 0)), x23.v]) rfl (run_load2 rfl rfl (Z.bx 0 rfl)) ?_
        (try simp only [Act.put, List.setIfInBounds_toArray, List.set_cons_zero, List.set_cons_succ])
        refine seq_store Z 3 rfl rfl rfl rfl rfl ?_; clear Z; intro W Z
        (try simp only [Act.put, List.setIfInBounds_toArray, List.set_cons_zero, List.set_cons_succ])
        refine seq_store Z 2 rfl rfl rfl rfl rfl ?_; clear Z; intro W Z
        (try simp only [Act.put, List.setIfInBounds_toArray, List.set_cons_zero, List.set_cons_succ])
        show Code.wp _ _ _ _ _
        refine wp_ret ?_
        exact Z.endsII (d := 0) (u' := undef) (x' := 0) 3 2 2 0 rfl rfl rfl rfl rfl rfl rfl rfl (by exact (floor_keep h0 T.1 T.2 (.inr (Classical.not_not.mp (of_decide_eq_false hc81)))).1) (by exact (floor_keep h0 T.1 T.2 (.inr (Classical.not_not.mp (of_decide_eq_false hc81)))).2)
      · show wpList _ _ _ [_, _, _, _] _ _
        refine seq_is (v := .agg #[.bool (decide (zof ((b1) != (b2)) (((z1).natAbs : Nat) / ((z2).natAbs : Nat)) < 0)), x6.v]) rfl (run_load2 rfl rfl (Z.bx 1 rfl)) ?_
        (try simp only [Act.put, List.setIfInBounds_toArray, List.set_cons_zero, List.set_cons_succ])
        refine seq_store Z 3 rfl rfl rfl rfl rfl ?_; clear Z; intro W Z
        (try simp only [Act.put, List.setIfInBounds_toArray, List.set_cons_zero, List.set_cons_succ])
        refine seq_is (v := .agg #[.bool (decide ((z1) - ((zof ((b1) != (b2)) (((z1).natAbs : Nat) / ((z2).natAbs : Nat))) * (z2)) < 0)), x23.v]) rfl (run_load2 rfl rfl (Z.bx 0 rfl)) ?_
        (try simp only [Act.put, List.setIfInBounds_toArray, List.set_cons_zero, List.set_cons_succ])
        refine seq_store Z 2 rfl rfl rfl rfl rfl ?_; clear Z; intro W Z
        (try simp only [Act.put, List.setIfInBounds_toArray, List.set_cons_zero, List.set_cons_succ])
        show Code.wp _ _ _ _ _
        refine wp_ret ?_
        exact Z.endsII (d := 0) (u' := undef) (x' := 0) 3 2 2 0 rfl rfl rfl rfl rfl rfl rfl rfl (by exact (floor_keep h0 T.1 T.2 (.inr (Classical.not_not.mp (of_decide_eq_false hc81)))).1) (by exact (floor_keep h0 T.1 T.2 (.inr (Classical.not_not.mp (of_decide_eq_false hc81)))).2)
      · show wpList _ _ _ [_, _, _, _] _ _
        refine seq_is (v := .agg #[.bool (decide ((z1) - ((zof ((b1) != (b2)) (((z1).natAbs : Nat) / ((z2).natAbs : Nat))) * (z2)) < 0)), x23.v]) rfl (run_load2 rfl rfl (Z.bx 0 rfl)) ?_
        (try simp only [Act.put, List.setIfInBounds_toArray, List.set_cons_zero, List.set_cons_succ])
        refine seq_is (v := .agg #[.bool (decide (zof ((b1) != (b2)) (((z1).natAbs : Nat) / ((z2).natAbs : Nat)) < 0)), x6.v]) rfl (run_load2 rfl rfl (Z.bx 1 rfl)) ?_
        (try simp only [Act.put, List.setIfInBounds_toArray, List.set_cons_zero, List.set_cons_succ])
        refine seq_store Z 3 rfl rfl rfl rfl rfl ?_; clear Z; intro W Z
        (try simp only [Act.put, List.setIfInBounds_toArray, List.set_cons_zero, List.set_cons_succ])
        refine seq_store Z 2 rfl rfl rfl rfl rfl ?_; clear Z; intro W Z
        (try simp only [Act.put, List.setIfInBounds_toArray, List.set_cons_zero, List.set_cons_succ])
        show Code.wp _ _ _ _ _
        refine wp_ret ?_
        exact Z.endsII (d := 0) (u' := undef) (x' := 0) 3 2 2 0 rfl rfl rfl rfl rfl rfl rfl rfl (by exact (floor_keep h0 T.1 T.2 (.inr (Classical.not_not.mp (of_decide_eq_false hc81)))).1) (by exact (floor_keep h0 T.1 T.2 (.inr (Classical.not_not.mp (of_decide_eq_false hc81)))).2)
  · refine wp_dag (pre := [_, _, _, _, _, _, _, _, _, _]) (sps := [.is (.agg #[.bool (decide ((z1) - ((zof ((b1) != (b2)) (((z1).natAbs : Nat) / ((z2).natAbs : Nat))) * (z2)) < 0)), x23.v]), .is (.int .i64 (((z1) - ((zof ((b1) != (b2)) (((z1).natAbs : Nat) / ((z2).natAbs : Nat))) * (z2))).sign)), .is (.bool (decide ((((z1) - ((zof ((b1) != (b2)) (((z1).natAbs : Nat) / ((z2).natAbs : Nat))) * (z2))).sign) ≠ (0)))), .is (.bool (decide ((((z1) - ((zof ((b1) != (b2)) (((z1).natAbs : Nat) / ((z2).natAbs : Nat))) * (z2))).sign) ≠ (0)))), .is undef, .is undef, .is undef, .is undef, .is undef, .is (.bool (false))]) Z (by kernel_rfl) _ rfl (by kernel_rfl) (by kernel_rfl) rfl ⟨?_, ?_, ?_, ?_, ?_, ?_, ?_, ?_, ?_, ?_, trivial⟩ ?_
    · intro a e91 W Q Z; exact step_is (fun _ h => op_plain rfl rfl h) (run_load2 rfl (ev e91) (Z.bx 0 rfl))
    · intro a x93 e94 W Q Z; exact step_call (fun _ h => op_plain rfl rfl h) rfl Try.func37 rfl rfl (args1 (ev e94)) (Z.callV (trammelref02_Sign.sem (Z.own 0 rfl (Bd.fm (Bd.abs (Bd.sub hb1 (Bd.mul (Bd.zof (Bd.div (Bd.abs hb1) (Bd.abs hb2))) hb2))) (by decide))) (Bd.fm (Bd.abs (Bd.sub hb1 (Bd.mul (Bd.zof (Bd.div (Bd.abs hb1) (Bd.abs hb2))) hb2))) (by decide)) ))
    · intro a x96 e97 W Q Z; exact step_is (fun _ h => op_plain rfl rfl h) (run_neq rfl (ev e97) rfl)
    · intro a x99 e100 W Q Z; exact step_is (fun _ h => op_plain rfl rfl h) (run_move rfl (ev e100))
    · intro a x102 e103 e104 W Q Z; exact step_un rfl rfl rfl (e103.trans (congrArg some (congrArg Value.bool hk39))) (by decide)
    · intro a x106 e107 x108 e109 W Q Z; exact step_un rfl rfl rfl (e107.trans (congrArg some (congrArg Value.bool hk39))) (by decide)
    · intro a x111 e112 e113 W Q Z; exact step_un rfl rfl rfl (e112.trans (congrArg some (congrArg Value.bool hk39))) (by decide)
    · intro a x115 e116 x117 e118 W Q Z; exact step_un rfl rfl rfl (e116.trans (congrArg some (congrArg Value.bool hk39))) (by decide)
    · intro a x120 e121 x122 e123 x124 e125 W Q Z; exact step_un rfl rfl rfl (e121.trans (congrArg some (congrArg Value.bool hk39))) (by decide)
    · intro a x127 e128 x129 e130 W Q Z; exact step_is (fun _ h => op_plain rfl rfl h) (run_pickF rfl ((show _ = Value.bool (decide ((((z1) - ((zof ((b1) != (b2)) (((z1).natAbs : Nat) / ((z2).natAbs : Nat))) * (z2))).sign) ≠ (0))) from (ev e128)).trans (congrArg Value.bool hk39)) rfl)
    clear Z; intro x92 x95 x98 x101 x105 x110 x114 x119 x126 x131 W Z
    (try simp only [Act.put, List.setIfInBounds_toArray, List.set_cons_zero, List.set_cons_succ])
    show Code.wp _ _ _ _ _
    refine wp_cond_false rfl ?_
    refine wp_skip ?_
    show Code.wp _ _ _ _ _
    refine wp_seq ?_
    refine wp_orders Z (by kernel_rfl) [[0, 1, 2, 3], [0, 2, 1, 3], [1, 0, 2, 3]] (by kernel_rfl) ?_; clear Z; intro W Z o ho
    simp only [List.mem_cons, List.not_mem_nil, or_false] at ho; rcases ho with rfl | rfl | rfl
    · show wpList _ _ _ [_, _, _, _] _ _
      refine seq_is (v := .agg #[.bool (decide (zof ((b1) != (b2)) (((z1).natAbs : Nat) / ((z2).natAbs : Nat)) < 0)), x6.v]) rfl (run_load2 rfl rfl (Z.bx 1 rfl)) ?_
      (try simp only [Act.put, List.setIfInBounds_toArray, List.set_cons_zero, List.set_cons_succ])
      refine seq_is (v := .agg #[.bool (decide ((z1) - ((zof ((b1) != (b2)) (((z1).natAbs : Nat) / ((z2).natAbs : Nat))) * (z2)) < 0)), x23.v]) rfl (run_load2 rfl rfl (Z.bx 0 rfl)) ?_
      (try simp only [Act.put, List.setIfInBounds_toArray, List.set_cons_zero, List.set_cons_succ])
      refine seq_store Z 3 rfl rfl rfl rfl rfl ?_; clear Z; intro W Z
      (try simp only [Act.put, List.setIfInBounds_toArray, List.set_cons_zero, List.set_cons_succ])
      refine seq_store Z 2 rfl rfl rfl rfl rfl ?_; clear Z; intro W Z
      (try simp only [Act.put, List.setIfInBounds_toArray, List.set_cons_zero, List.set_cons_succ])
      show Code.wp _ _ _ _ _
      refine wp_ret ?_
      exact Z.endsII (d := 0) (u' := undef) (x' := 0) 3 2 2 0 rfl rfl rfl rfl rfl rfl rfl rfl (by exact (floor_keep h0 T.1 T.2 (.inl (Classical.not_not.mp (of_decide_eq_false hk39)))).1) (by exact (floor_keep h0 T.1 T.2 (.inl (Classical.not_not.mp (of_decide_eq_false hk39)))).2)
    · show wpList _ _ _ [_, _, _, _] _ _
      refine seq_is (v := .agg #[.bool (decide (zof ((b1) != (b2)) (((z1).natAbs : Nat) / ((z2).natAbs : Nat)) < 0)), x6.v]) rfl (run_load2 rfl rfl (Z.bx 1 rfl)) ?_
      (try simp only [Act.put, List.setIfInBounds_toArray, List.set_cons_zero, List.set_cons_succ])
      refine seq_store Z 3 rfl rfl rfl rfl rfl ?_; clear Z; intro W Z
      (try simp only [Act.put, List.setIfInBounds_toArray, List.set_cons_zero, List.set_cons_succ])
      refine seq_is (v := .agg #[.bool (decide ((z1) - ((zof ((b1) != (b2)) (((z1).natAbs : Nat) / ((z2).natAbs : Nat))) * (z2)) < 0)), x23.v]) rfl (run_load2 rfl rfl (Z.bx 0 rfl)) ?_
      (try simp only [Act.put, List.setIfInBounds_toArray, List.set_cons_zero, List.set_cons_succ])
      refine seq_store Z 2 rfl rfl rfl rfl rfl ?_; clear Z; intro W Z
      (try simp only [Act.put, List.setIfInBounds_toArray, List.set_cons_zero, List.set_cons_succ])
      show Code.wp _ _ _ _ _
      refine wp_ret ?_
      exact Z.endsII (d := 0) (u' := undef) (x' := 0) 3 2 2 0 rfl rfl rfl rfl rfl rfl rfl rfl (by exact (floor_keep h0 T.1 T.2 (.inl (Classical.not_not.mp (of_decide_eq_false hk39)))).1) (by exact (floor_keep h0 T.1 T.2 (.inl (Classical.not_not.mp (of_decide_eq_false hk39)))).2)
    · show wpList _ _ _ [_, _, _, _] _ _
      refine seq_is (v := .agg #[.bool (decide ((z1) - ((zof ((b1) != (b2)) (((z1).natAbs : Nat) / ((z2).natAbs : Nat))) * (z2)) < 0)), x23.v]) rfl (run_load2 rfl rfl (Z.bx 0 rfl)) ?_
      (try simp only [Act.put, List.setIfInBounds_toArray, List.set_cons_zero, List.set_cons_succ])
      refine seq_is (v := .agg #[.bool (decide (zof ((b1) != (b2)) (((z1).natAbs : Nat) / ((z2).natAbs : Nat)) < 0)), x6.v]) rfl (run_load2 rfl rfl (Z.bx 1 rfl)) ?_
      (try simp only [Act.put, List.setIfInBounds_toArray, List.set_cons_zero, List.set_cons_succ])
      refine seq_store Z 3 rfl rfl rfl rfl rfl ?_; clear Z; intro W Z
      (try simp only [Act.put, List.setIfInBounds_toArray, List.set_cons_zero, List.set_cons_succ])
      refine seq_store Z 2 rfl rfl rfl rfl rfl ?_; clear Z; intro W Z
      (try simp only [Act.put, List.setIfInBounds_toArray, List.set_cons_zero, List.set_cons_succ])
      show Code.wp _ _ _ _ _
      refine wp_ret ?_
      exact Z.endsII (d := 0) (u' := undef) (x' := 0) 3 2 2 0 rfl rfl rfl rfl rfl rfl rfl rfl (by exact (floor_keep h0 T.1 T.2 (.inl (Classical.not_not.mp (of_decide_eq_false hk39)))).1) (by exact (floor_keep h0 T.1 T.2 (.inl (Classical.not_not.mp (of_decide_eq_false hk39)))).2)
end Go.Proofs.Ytmbmbmkmjbpcpaa.PA


/- Walks of Near and Exact. -/
namespace Go.Proofs.Ytmbmbmkmjbpcpaa.PA
open Go Go.Proofs.Ytmbmbmkmjbpcpaa.Nums Go.RowKit Go.Proofs.YtmbmbmkmjbpcpaaW.PrintWords Go.Proofs.YtmbmbmkmjbpcpaaW.PrintLast Go.Proofs.YtmbmbmkmjbpcpaaW.PrintMore
set_option linter.unusedVariables false
set_option linter.unusedSimpArgs false
end Go.Proofs.Ytmbmbmkmjbpcpaa.PA

