/- A region in whatever order, where operations that only hand a value on may also come later than the stores at its end; no program's code is named. -/
import Derived.Test.YtmbmbmkmjbpcpaaZDK
import Derived.Test.YtmbmbmkmjbpcpaaZEK
import Derived.Test.YtmbmbmkmjbpcpaaPAx0K
import Derived.Outline
namespace Go.Proofs.Ytmbmbmkmjbpcpaa.PA
open Go Go.Proofs.Ytmbmbmkmjbpcpaa.Nums Go.RowKit Go.Proofs.YtmbmbmkmjbpcpaaW.PrintWords Go.Proofs.YtmbmbmkmjbpcpaaW.PrintLast Go.Proofs.YtmbmbmkmjbpcpaaW.PrintMore
set_option linter.unusedVariables false
section
variable {P : Program} {Q : Exit → Act → World → Prop}
def DInv (w0 : World) (pre : List Oper) (sps : List Sp) (a : Act) (ts : List (Value × (World → Value → Prop))) (bs : List (Nat × TypeId × Array Value)) (l : Array Bool) (a' : Act) (W : World) : Prop :=
  Zt w0 W ts bs ∧ a'.defers = a.defers ∧ a'.tmps.size = a.tmps.size ∧
    (∀ d, who pre d = none → a'.tmps[d]? = a.tmps[d]?) ∧
    (∀ (i : Nat) (o : Oper) (s : Sp) (d : Tmp), Ls l i → pre[i]? = some o → o.dst = some d → sps[i]? = some s → ∃ v, a'.tmps[d]? = some v ∧ s.Ok w0 bs W v) ∧
    (∀ (i j : Nat) (oi oj : Oper) (si sj : Sp) (di dj : Tmp) (vi vj : Value), i ≠ j → Ls l i → Ls l j → pre[i]? = some oi → pre[j]? = some oj → sps[i]? = some si → sps[j]? = some sj → oi.dst = some di → oj.dst = some dj → a'.tmps[di]? = some vi → a'.tmps[dj]? = some vj → si.isBox = true → sj.isBox = true → blkV vi ≠ blkV vj)
theorem DInv.step {w0 : World} {pre : List Oper} {sps : List Sp} {a : Act} {ts : List (Value × (World → Value → Prop))} {bs : List (Nat × TypeId × Array Value)} (hd : dagOk pre a.tmps.size = true) (hl : pre.length = sps.length)
    (hs : StepsE P w0 pre sps a ts bs 0 pre sps) {l : Array Bool} {a' : Act} {W : World} (hI : DInv w0 pre sps a ts bs l a' W) {i : Nat} {o : Oper} (ho : pre[i]? = some o) (lsd : ∀ j, j ∈ clo pre i (waits pre i) → Ls l j) (Q' : Exit → Act → World → Prop) :
    wpOp P pre.toArray Q' i (fun a2 W2 => DInv w0 pre sps a ts bs (l.setIfInBounds i true) a2 W2) a' W := by
  obtain ⟨i3, i4, i5, i6, i7, i8⟩ := hI
  have lset : ∀ (l : Array Bool) (i j : Nat), Ls (l.setIfInBounds i true) j → i = j ∨ Ls l j := by
    intro l i j h
    by_cases e : i = j
    · exact .inl e
    · exact .inr (Ls.old h e)
  obtain ⟨⟨d, hd1, hd2, hd3⟩, hacy, heyes⟩ := dag_one hd ho
  obtain ⟨s, hs1, hs2⟩ := hs.one ho
  rw [Nat.zero_add] at hs2
  have hst := (hs2 a').run (W := W) (Q' := Q') (eyes pre o) ts i3 (fun d _ h => i6 d h) (fun d hd j hj => by
    obtain ⟨oj, h1, h2⟩ := who_some hj
    have hjl : j < sps.length := by rw [← hl]; exact (List.getElem?_eq_some_iff.mp h1).1
    obtain ⟨v, h3, h4⟩ := i7 j oj sps[j] d (lsd j (heyes d hd j hj)) h1 h2 (by simp [hjl])
    exact ⟨_, v, by simp [hjl], h3, h4⟩)
  refine wpOp_mono ?_ hst
  rintro a2 W2 ⟨v, rfl, hb, hnew⟩
  rw [hd1]
  have off : ∀ (j : Nat) (oj : Oper) (dj : Tmp), pre[j]? = some oj → oj.dst = some dj → i ≠ j → d ≠ dj := by
    intro j oj dj h1 h2 hne e
    subst e
    obtain ⟨⟨d', e1, e2, -⟩, -⟩ := dag_one hd h1
    rw [h2] at e1
    injection e1 with e1
    subst e1
    rw [hd2] at e2
    injection e2 with e2
    exact hne e2
  refine ⟨i3.step hb, i4, by simpa [Act.put] using i5, fun d' h' => ?_, fun j oj sj dj h1 h2 h3 h4 => ?_, ?_⟩
  · rw [put_off (by rintro rfl; rw [hd2] at h'; cases h')]
    exact i6 d' h'
  · rcases lset l i j h1 with rfl | h1
    · rw [ho] at h2
      injection h2 with h2
      subst h2
      rw [hd1] at h3
      injection h3 with h3
      subst h3
      rw [hs1] at h4
      injection h4 with h4
      subst h4
      exact ⟨v, put_at (by rw [i5]; exact hd3), hnew.ok i3⟩
    · by_cases e : i = j
      · subst e
        rw [ho] at h2
        injection h2 with h2
        subst h2
        rw [hd1] at h3
        injection h3 with h3
        subst h3
        rw [hs1] at h4
        injection h4 with h4
        subst h4
        exact ⟨v, put_at (by rw [i5]; exact hd3), hnew.ok i3⟩
      · obtain ⟨u, k1, k2⟩ := i7 j oj sj dj h1 h2 h3 h4
        exact ⟨u, by rw [put_off (off j oj dj h2 h3 e)]; exact k1, k2.step hb⟩
  · have one : ∀ (j : Nat) (oj : Oper) (sj : Sp) (dj : Tmp) (vj vi : Value), i ≠ j → Ls l j → pre[j]? = some oj → sps[j]? = some sj → oj.dst = some dj → (a'.put (some d) v).tmps[d]? = some vi → (a'.put (some d) v).tmps[dj]? = some vj → s.isBox = true → sj.isBox = true → blkV vj ≠ blkV vi := by
      intro j oj sj dj vj vi hne h1 h2 h3 h4 h5 h6 h7 h8
      rw [put_off (off j oj dj h2 h4 hne)] at h6
      rw [put_at (by rw [i5]; exact hd3)] at h5
      injection h5 with h5
      subst h5
      obtain ⟨u, k1, k2⟩ := i7 j oj sj dj h1 h2 h4 h3
      rw [h6] at k1
      injection k1 with k1
      subst k1
      exact hnew.far k2 h7 h8
    intro p q op oq sp sq dp dq vp vq hne hp hq h1 h2 h3 h4 h5 h6 h7 h8 h9 h10
    by_cases ep : i = p
    · subst ep
      rw [ho] at h1
      injection h1 with h1
      subst h1
      rw [hd1] at h5
      injection h5 with h5
      subst h5
      rw [hs1] at h3
      injection h3 with h3
      subst h3
      exact (one q oq sq dq vq vp hne (Ls.old hq hne) h2 h4 h6 h7 h8 h9 h10).symm
    · by_cases eq : i = q
      · subst eq
        rw [ho] at h2
        injection h2 with h2
        subst h2
        rw [hd1] at h6
        injection h6 with h6
        subst h6
        rw [hs1] at h4
        injection h4 with h4
        subst h4
        exact one p op sp dp vp vq ep (Ls.old hp ep) h1 h3 h5 h8 h7 h10 h9
      · rw [put_off (off p op dp h1 h5 ep)] at h7
        rw [put_off (off q oq dq h2 h6 eq)] at h8
        exact i8 p q op oq sp sq dp dq vp vq hne (Ls.old hp ep) (Ls.old hq eq) h1 h2 h3 h4 h5 h6 h7 h8 h9 h10
theorem DInv.fin {w0 : World} {pre : List Oper} {sps : List Sp} {a : Act} {ts : List (Value × (World → Value → Prop))} {bs : List (Nat × TypeId × Array Value)} {ops : Array Oper} {tail : List Oper} (hd : dagOk pre a.tmps.size = true) (hl : pre.length = sps.length)
    (hf : Fin P ops Q w0 tail pre sps ts bs a) {l : Array Bool} {a' : Act} {W : World} (hI : DInv w0 pre sps a ts bs l a' W) (hall : ∀ i, i < pre.length → Ls l i) : wpList P ops Q tail a' W := by
  obtain ⟨i3, i4, i5, i6, i7, i8⟩ := hI
  refine Fin.run pre sps ts bs a hl hf i3 (fun i o s h1 h2 => ?_) (fun i j oi oj si sj di dj vi vj hne h1 h2 h3 h4 => ?_) i4.symm i5.symm fun d hd' => ?_
  · obtain ⟨⟨d, hd1, hd2, hd3⟩, -⟩ := dag_one hd h1
    obtain ⟨v, h3, h4⟩ := i7 i o s d (hall i (List.getElem?_eq_some_iff.mp h1).1) h1 hd1 h2
    exact ⟨d, v, hd1, h3, h4⟩
  · exact i8 i j oi oj si sj di dj vi vj hne (hall i (List.getElem?_eq_some_iff.mp h1).1) (hall j (List.getElem?_eq_some_iff.mp h2).1) h1 h2 h3 h4
  · refine (i6 d ?_).symm
    cases hw : who pre d with
    | none => rfl
    | some j =>
      obtain ⟨o, h1, h2⟩ := who_some hw
      exact absurd h2 (hd' j o h1)
theorem DInv.start {w0 w : World} {pre : List Oper} {sps : List Sp} {a : Act} {ts : List (Value × (World → Value → Prop))} {bs : List (Nat × TypeId × Array Value)} (Z : Zt w0 w ts bs) {l : Array Bool} (nol : ∀ i, ¬ Ls l i) : DInv w0 pre sps a ts bs l a w :=
  ⟨Z, rfl, rfl, fun _ _ => rfl, fun i o s d h => absurd h (nol i), fun i j oi oj si sj di dj vi vj _ h => absurd h (nol i)⟩
/-- it only hands a value on -/
def lightOp (o : Oper) : Bool := (match o.op with
  | .move _ => true
  | .assign _ => true
  | .extract _ _ => true
  | _ => false) && o.guard.isNone
theorem light_yields {ops : Array Oper} {o : Oper} {a : Act} {W : World} {K : Act → World → Prop} (hl : lightOp o = true) {i : Nat} (ho : ops[i]? = some o) (h : ∀ Q', wpOp P ops Q' i K a W) : ∃ v, Yields P ops o v a ∧ K (a.put o.dst v) W := by
  unfold lightOp at hl
  rw [Bool.and_eq_true] at hl
  obtain ⟨h1, h2⟩ := hl
  have hg : o.guard = none := by simpa using h2
  have hw : ∀ tm, Region.wanted o (yielded ops tm) = true := fun tm => by simp [Region.wanted, hg]
  have h3 := h (fun _ _ _ => False)
  unfold Go.wpOp at h3
  rw [ho] at h3
  simp only [hw, if_true] at h3
  rcases h3 with h3 | ⟨-, ⟨_, _, h4⟩⟩
  case inr => exact h4.elim
  have key : (∃ v, (∀ w, (execOp a.eval o).run P w = .ok (.value v) w)) ∨ ∃ x : Unit, ∀ w, ∃ r, (execOp a.eval o).run P w = .halt r w ∧ ∀ v, r ≠ .panic v := by
    unfold execOp
    cases hop : o.op <;> rw [hop] at h1 <;> simp only [Bool.false_eq_true] at h1
    case move x => exact .inl ⟨a.eval x, fun w => rfl⟩
    case assign x => exact .inl ⟨a.eval x, fun w => rfl⟩
    case extract x i =>
      simp only [Instr.extract]
      cases a.eval x with
      | tuple vs =>
        simp only
        cases vs[i]? with
        | some v => exact .inl ⟨v, fun w => rfl⟩
        | none => exact .inr ⟨(), fun w => ⟨_, rfl, fun v h => by cases h⟩⟩
      | _ => exact .inr ⟨(), fun w => ⟨_, rfl, fun v h => by cases h⟩⟩
  rcases key with ⟨v, hv⟩ | ⟨_, hx⟩
  · refine ⟨v, .inl ⟨hw _, hv⟩, ?_⟩
    unfold Oper.wp at h3
    rw [hv] at h3
    exact h3
  · exfalso
    obtain ⟨r, hr, hn⟩ := hx W
    unfold Oper.wp at h3
    rw [hr] at h3
    cases r with
    | panic v => exact hn v rfl
    | _ => exact h3
/-- operation j only hands a value on, and whoever does not wait for it leaves it alone -/
def floats (ops : List Oper) (j : Nat) : Bool :=
  match ops[j]? with
  | none => false
  | some oj => lightOp oj && (List.range ops.length).all fun k => match ops[k]? with
    | none => true
    | some ok => decide (k ∈ clo ops j (waits ops j)) || k == j || (ok.after.any fun e => Region.binds .any e && e.on == j) || oj.apart ops.toArray ok
/-- from N on each waits for all ahead of it but what floats -/
def tailOk2 (ops : List Oper) (N : Nat) : Bool :=
  ((List.range ops.length).all fun i => ((waits ops i).all fun j => decide (j < i)) && (decide (i < N) || (List.range i).all fun j => decide (j ∈ clo ops i (waits ops i)) || (decide (j < N) && floats ops j))) && (ops.take N).all (early N)
theorem waits_pre {pre tail : List Oper} {i : Nat} (h : i < pre.length) : waits (pre ++ tail) i = waits pre i := by
  unfold waits
  rw [List.getElem?_append_left h]
theorem Down.pre {pre tail : List Oper} {l : Array Bool} (h : Down (pre ++ tail) l) : Down pre l := by
  intro j hj x hx
  by_cases hp : j < pre.length
  · exact h j hj x (by rw [waits_pre hp]; exact hx)
  · unfold waits at hx
    rw [List.getElem?_eq_none (by omega)] at hx
    cases hx
theorem least_un {n : Nat} {l : Array Bool} : (∀ i, i < n → Ls l i) ∨ ∃ i, i < n ∧ ¬ Ls l i ∧ ∀ j, j < i → Ls l j := by
  induction n with
  | zero => exact .inl fun i h => absurd h (Nat.not_lt_zero i)
  | succ n ih =>
    rcases ih with h | ⟨i, h1, h2, h3⟩
    · by_cases hn : Ls l n
      · refine .inl fun i hi => ?_
        rcases Nat.lt_or_ge i n with h4 | h4
        · exact h i h4
        · have : i = n := by omega
          subst this
          exact hn
      · exact .inr ⟨n, by omega, hn, h⟩
    · exact .inr ⟨i, by omega, h2, h3⟩
theorem not_ls {l : Array Bool} {i : Nat} (h : i < l.size) (hn : ¬ Ls l i) : l.getD i true = false := by
  unfold Ls at hn
  simp [h] at hn ⊢
  exact hn
theorem ls_of {l : Array Bool} {i : Nat} (h : l.getD i true = false) : ¬ Ls l i ∧ i < l.size := by
  have hi : i < l.size := by
    rcases Nat.lt_or_ge i l.size with h1 | h1
    · exact h1
    · simp [Array.getElem?_eq_none h1] at h
  refine ⟨fun h1 => ?_, hi⟩
  unfold Ls at h1
  simp [hi] at h1 h
  rw [h1] at h
  cases h
theorem ready_of {ops : List Oper} {l : Array Bool} {i : Nat} (hi : i < ops.length) (hs : l.size = ops.length) (hn : ¬ Ls l i) (hw : ∀ x, x ∈ waits ops i → Ls l x) : i ∈ Region.ready .any ops.toArray l := by
  refine mem_ready.2 ⟨not_ls (by omega) hn, ops[i], by simp [hi], fun e he hb => ?_⟩
  refine hw e.on ?_
  unfold waits
  rw [show ops[i]? = some ops[i] by simp [hi]]
  exact List.mem_map.mpr ⟨e, List.mem_filter.mpr ⟨by simpa using he, hb⟩, rfl⟩
/-- the end of a region, as it stands -/
theorem tail_run {pre tail : List Oper} (hfo : ∀ i, pre.length ≤ i → i < (pre ++ tail).length → ∀ j, pre.length ≤ j → j < i → j ∈ clo (pre ++ tail) i (waits (pre ++ tail) i)) (hacy : ∀ i, i < (pre ++ tail).length → ∀ j, j ∈ waits (pre ++ tail) i → j < i) :
    ∀ (fuel k : Nat) (l : Array Bool) (a : Act) (w : World), unl l ≤ fuel → l.size = (pre ++ tail).length → Down (pre ++ tail) l → pre.length ≤ k → k ≤ (pre ++ tail).length → (∀ j, Ls l j ↔ j < k) →
      wpOps P (pre ++ tail).toArray Q (List.range' k ((pre ++ tail).length - k)) a w → wpAny P .any (pre ++ tail).toArray Q fuel l a w := by
  intro fuel
  induction fuel with
  | zero =>
    intro k l a w hu hs hd hk1 hk2 hk h
    have hke : k = (pre ++ tail).length := by
      rcases Nat.lt_or_ge k (pre ++ tail).length with h1 | h1
      · have := unl_set (not_ls (l := l) (i := k) (by omega) (fun h2 => by have := (hk k).1 h2; omega))
        omega
      · omega
    have hr : Region.ready .any (pre ++ tail).toArray l = [] := by
      cases hr : Region.ready .any (pre ++ tail).toArray l with
      | nil => rfl
      | cons i r =>
        have hi : i ∈ Region.ready .any (pre ++ tail).toArray l := by rw [hr]; exact List.mem_cons_self
        obtain ⟨h1, h2⟩ := ls_of (mem_ready.1 hi).1
        exact absurd ((hk i).2 (by omega)) h1
    rw [hke, Nat.sub_self] at h
    exact ⟨hr, h⟩
  | succ fuel ih =>
    intro k l a w hu hs hd hk1 hk2 hk h
    refine ⟨fun hr => ?_, fun i hi => ?_⟩
    · have hke : k = (pre ++ tail).length := by
        rcases Nat.lt_or_ge k (pre ++ tail).length with h1 | h1
        · have := ready_of h1 hs (fun h2 => by have := (hk k).1 h2; omega) (fun x hx => (hk x).2 (hacy k h1 x hx))
          rw [hr] at this
          cases this
        · omega
      rw [hke, Nat.sub_self] at h
      exact h
    · have hun := (mem_ready.1 hi).1
      obtain ⟨h1, h2⟩ := ls_of hun
      have hki : k ≤ i := by
        rcases Nat.lt_or_ge i k with h3 | h3
        · exact absurd ((hk i).2 h3) h1
        · exact h3
      have hik : i = k := by
        rcases Nat.lt_or_ge k i with h3 | h3
        · have := clo_ls hd i _ (waits_ready hi) k (hfo i (by omega) (by omega) k hk1 h3)
          exact absurd ((hk k).1 this) (by omega)
        · omega
      subst hik
      have e : (pre ++ tail).length - i = ((pre ++ tail).length - (i + 1)) + 1 := by omega
      rw [e, List.range'_succ, wpOps_cons] at h
      refine wpOp_mono (fun a' w' h' => ih (i + 1) _ a' w' (by have := unl_set hun; omega) (by simpa using hs) (hd.set hi) (by omega) (by omega) (fun j => ?_) h') h
      constructor
      · intro hj
        by_cases e : i = j
        · omega
        · have := (hk j).1 (Ls.old hj e)
          omega
      · intro hj
        by_cases e : i = j
        · subst e
          unfold Ls
          simp [h2]
        · unfold Ls
          rw [Go.getD_set_ne false e]
          exact (hk j).2 (by omega)
theorem wp_dag2 {pre tail : List Oper} {sps : List Sp} {id : Nat} {w0 w : World} {a : Act} {ts : List (Value × (World → Value → Prop))} {bs : List (Nat × TypeId × Array Value)} (Z : Zt w0 w ts bs) (hm : P.follows .mixedOrders = true)
    (n : Nat) (hn : a.tmps.size = n) (hok : tailOk2 (pre ++ tail) pre.length = true) (hsel : Region.noSelect (pre ++ tail).toArray = true) (hd : dagOk pre n = true) (hl : pre.length = sps.length)
    (hQ : ∀ c a d v w, Q (.panic c) (Act.put a d v) w → Q (.panic c) a w)
    (hs : StepsE P w0 pre sps a ts bs 0 pre sps) (hf : Fin P (pre ++ tail).toArray Q w0 tail pre sps ts bs a) : (Code.region id (pre ++ tail).toArray true).wp P Q a w := by
  subst hn
  refine wp_region_any hm ?_
  unfold tailOk2 at hok
  rw [Bool.and_eq_true] at hok
  obtain ⟨hok, hg⟩ := hok
  rw [List.take_left] at hg
  have hlen : (pre ++ tail).length = pre.length + tail.length := List.length_append
  have hacy : ∀ i, i < (pre ++ tail).length → ∀ j, j ∈ waits (pre ++ tail) i → j < i := by
    intro i hi j hj
    have h1 := List.all_eq_true.mp hok i (List.mem_range.mpr hi)
    rw [Bool.and_eq_true] at h1
    simpa using List.all_eq_true.mp h1.1 j hj
  have hfo : ∀ i, pre.length ≤ i → i < (pre ++ tail).length → ∀ j, j < i → j ∈ clo (pre ++ tail) i (waits (pre ++ tail) i) ∨ (j < pre.length ∧ floats (pre ++ tail) j = true) := by
    intro i hN hi j hj
    have h1 := List.all_eq_true.mp hok i (List.mem_range.mpr hi)
    rw [Bool.and_eq_true, Bool.or_eq_true] at h1
    rcases h1.2 with h2 | h2
    · exact absurd (of_decide_eq_true h2) (by omega)
    · have h3 := List.all_eq_true.mp h2 j (List.mem_range.mpr hj)
      rw [Bool.or_eq_true, Bool.and_eq_true] at h3
      rcases h3 with h3 | ⟨h3, h4⟩
      · exact .inl (of_decide_eq_true h3)
      · exact .inr ⟨of_decide_eq_true h3, h4⟩
  have hfoT : ∀ i, pre.length ≤ i → i < (pre ++ tail).length → ∀ j, pre.length ≤ j → j < i → j ∈ clo (pre ++ tail) i (waits (pre ++ tail) i) := by
    intro i h1 h2 j h3 h4
    rcases hfo i h1 h2 j h4 with h | ⟨h, -⟩
    · exact h
    · omega
  have hends : ∀ (l : Array Bool) (a' : Act) (W : World) (fuel : Nat), unl l ≤ fuel → l.size = (pre ++ tail).length → Down (pre ++ tail) l → (∀ j, pre.length ≤ j → ¬ Ls l j) → DInv w0 pre sps a ts bs l a' W → (∀ i, i < pre.length → Ls l i) → wpAny P .any (pre ++ tail).toArray Q fuel l a' W := by
    intro l a' W fuel hu hs2 hdn hno hI hall
    refine tail_run hfoT hacy fuel pre.length l a' W hu hs2 hdn (Nat.le_refl _) (by omega) (fun j => ⟨fun hj => ?_, hall j⟩) ?_
    · rcases Nat.lt_or_ge j pre.length with h | h
      · exact h
      · exact absurd hj (hno j h)
    · have h := hI.fin hd hl hf hall
      have e : wpOps P (pre ++ tail).toArray Q (List.range' pre.length tail.length) = wpList P (pre ++ tail).toArray Q tail :=
        wpOps_eq_wpList tail pre.length (fun j => by simp [List.getElem?_append_right])
      rw [hlen, Nat.add_sub_cancel_left, e]
      exact h
  have key : ∀ (fuel : Nat) (l : Array Bool) (a' : Act) (W : World), unl l ≤ fuel → l.size = (pre ++ tail).length → Down (pre ++ tail) l → (∀ j, pre.length ≤ j → ¬ Ls l j) → DInv w0 pre sps a ts bs l a' W → wpAny P .any (pre ++ tail).toArray Q fuel l a' W := by
    intro fuel
    induction fuel with
    | zero =>
      intro l a' W hu hs2 hdn hno hI
      refine hends l a' W 0 hu hs2 hdn hno hI fun i hi => ?_
      by_cases h : Ls l i
      · exact h
      · have := unl_set (not_ls (by omega) h)
        omega
    | succ fuel ih =>
      intro l a' W hu hs2 hdn hno hI
      rcases least_un (n := pre.length) (l := l) with hall | ⟨m, hm1, hm2, hm3⟩
      · exact hends l a' W _ hu hs2 hdn hno hI hall
      have hmready : m ∈ Region.ready .any (pre ++ tail).toArray l := ready_of (by omega) hs2 hm2 (fun x hx => hm3 x (hacy m (by omega) x hx))
      -- one step of an operation of the first part
      have one : ∀ i, i < pre.length → i ∈ Region.ready .any (pre ++ tail).toArray l → ∀ Q', wpOp P pre.toArray Q' i (fun a2 W2 => DInv w0 pre sps a ts bs (l.setIfInBounds i true) a2 W2) a' W := by
        intro i hi hir Q'
        refine DInv.step hd hl hs hI (o := pre[i]) (by simp [hi]) (clo_ls hdn.pre i _ fun x hx => waits_ready hir x (by rw [waits_pre hi]; exact hx)) Q'
      have next : ∀ i, i < pre.length → i ∈ Region.ready .any (pre ++ tail).toArray l → ∀ a2 W2, DInv w0 pre sps a ts bs (l.setIfInBounds i true) a2 W2 → wpAny P .any (pre ++ tail).toArray Q fuel (l.setIfInBounds i true) a2 W2 := by
        intro i hi hir a2 W2 h
        refine ih _ a2 W2 (by have := unl_set (mem_ready.1 hir).1; omega) (by simpa using hs2) (hdn.set hir) (fun j hj hl2 => hno j hj (Ls.old hl2 (by omega))) h
      by_cases hfl : ∀ j, j < pre.length → ¬ Ls l j → floats (pre ++ tail) j = true
      · -- the least of what is left floats: it may be taken first
        have hf1 := hfl m hm1 hm2
        have hom : (pre ++ tail)[m]? = some pre[m] := by rw [List.getElem?_append_left hm1]; simp [hm1]
        unfold floats at hf1
        rw [hom] at hf1
        simp only [Bool.and_eq_true] at hf1
        obtain ⟨hlt, hap⟩ := hf1
        have hopre : pre.toArray[m]? = some pre[m] := by simp [hm1]
        have hofull : (pre ++ tail).toArray[m]? = some pre[m] := by simpa using hom
        obtain ⟨v, hy, hk⟩ := light_yields hlt hopre (one m hm1 hmready)
        have hy2 : Yields P (pre ++ tail).toArray pre[m] v a' := by
          unfold lightOp at hlt
          rw [Bool.and_eq_true] at hlt
          have hgn : (pre[m]).guard = none := by simpa using hlt.2
          rcases hy with ⟨-, hv⟩ | ⟨h1, -⟩
          · exact .inl ⟨by simp [Region.wanted, hgn], hv⟩
          · simp [Region.wanted, hgn] at h1
        refine wpAny_first hofull (Region.noSelect_spec hsel) (fun c a w => hQ c a _ v w) fuel l a' W (fun j oj hj hne hunl hnw => ?_) hmready hy2 (next m hm1 hmready _ _ hk)
        have hjl : j < (pre ++ tail).length := by
          have := (Array.getElem?_eq_some_iff.1 hj).1
          simpa using this
        have h3 := List.all_eq_true.mp hap j (List.mem_range.mpr hjl)
        have hj2 : (pre ++ tail)[j]? = some oj := by simpa using hj
        rw [hj2] at h3
        simp only [Bool.or_eq_true, beq_iff_eq, hne, or_false] at h3
        rcases h3 with (h3 | h3) | h3
        · exact absurd (clo_ls hdn m _ (waits_ready hmready) j (of_decide_eq_true h3)) (ls_of hunl).1
        · obtain ⟨e, he, hb⟩ := Array.any_eq_true'.1 h3
          rw [Bool.and_eq_true] at hb
          exact absurd (by simpa using hb.2) (hnw e he hb.1)
        · exact h3
      · refine ⟨fun hr => ?_, fun i hi => ?_⟩
        · rw [hr] at hmready
          cases hmready
        · have hil : i < (pre ++ tail).length := by simpa using ready_lt hi
          by_cases hip : i < pre.length
          · exact wpOp_mono (fun a2 W2 h => next i hip hi a2 W2 h) (wpOp_tl (Q := Q) (tail := tail) hip hg (one i hip hi _))
          · exfalso
            refine hfl fun j hj hn => ?_
            rcases hfo i (by omega) hil j (by omega) with h | ⟨-, h⟩
            · exact absurd (clo_ls hdn i _ (waits_ready hi) j h) hn
            · exact h
  have e : (pre ++ tail).toArray.size = (pre ++ tail).length := by simp
  rw [e]
  have nol : ∀ i, ¬ Ls (Array.replicate (pre ++ tail).length false) i := by
    intro i h
    unfold Ls at h
    rw [Array.getD_eq_getD_getElem?, Array.getElem?_replicate] at h
    split at h <;> simp at h
  exact key _ _ a w.drew (by simpa using unl_start (pre ++ tail).length) (by simp) (fun j hj => absurd hj (nol j)) (fun j _ => nol j) (DInv.start Z.drew nol)
def ordersFrom (ops : Array Oper) : Nat → Array Bool → List (List Nat)
  | 0, _ => [[]]
  | f + 1, l => match Region.ready .any ops l with
    | [] => [[]]
    | i :: r => (i :: r).flatMap fun j => (ordersFrom ops f (l.setIfInBounds j true)).map (j :: ·)
theorem orders_mem {ops : Array Oper} : ∀ (fuel t : Nat) (l : Array Bool), Region.linearise.go .any ops fuel t l [] ∈ ordersFrom ops fuel l := by
  intro fuel
  induction fuel with
  | zero => intro t l; simp [Region.linearise.go, ordersFrom]
  | succ fuel ih =>
    intro t l
    simp only [Region.linearise.go, ordersFrom]
    change (match (Region.ready .any ops l)[t % (Region.ready .any ops l).length]? with
      | some i => Region.linearise.go .any ops fuel (t / (Region.ready .any ops l).length) (l.setIfInBounds i true) [i]
      | none => [].reverse) ∈ _
    cases hr : Region.ready .any ops l with
    | nil => simp
    | cons a r =>
      cases hi : (a :: r)[t % (a :: r).length]? with
      | none =>
        have hlt : t % (a :: r).length < (a :: r).length := Nat.mod_lt _ (by simp)
        simp at hi
        simp at hlt
        omega
      | some i =>
        simp only []
        rw [linearise_go_acc, List.reverse_singleton, List.singleton_append]
        exact List.mem_flatMap.mpr ⟨i, List.mem_of_getElem? hi, List.mem_map.mpr ⟨_, ih _ _, rfl⟩⟩
theorem wpOps_list {ops : Array Oper} : ∀ (l : List Nat), wpOps P ops Q l = wpList P ops Q (l.filterMap (ops[·]?)) := by
  intro l
  induction l with
  | nil => funext a w; rfl
  | cons i r ih =>
    funext a w
    cases h : ops[i]? with
    | none => simp [wpOps, h, ih]
    | some o => simp [wpOps, wpList, h, ih]
/-- a small region: each of its orders -/
theorem wp_orders {w0 w : World} {id : Nat} {ops : Array Oper} {a : Act} {ts : List (Value × (World → Value → Prop))} {bs : List (Nat × TypeId × Array Value)} (Z : Zt w0 w ts bs) (hm : P.follows .mixedOrders = true) (os : List (List Nat)) (hos : ordersFrom ops ops.size (Array.replicate ops.size false) = os)
    (h : ∀ W, Zt w0 W ts bs → ∀ o, o ∈ os → wpList P ops Q (o.filterMap (ops[·]?)) a W) : (Code.region id ops true).wp P Q a w :=
  wp_region_draw fun t => by
    simp only [Region.schedule, hm, Bool.true_or, if_true]
    rw [wpOps_list]
    refine h _ Z.drew _ ?_
    rw [← hos]
    exact orders_mem _ _ _
end
end Go.Proofs.Ytmbmbmkmjbpcpaa.PA


/- The laws of the quotients: plain; layer 1's quotient for a divisor that is not 0. -/
namespace Go.Proofs.Ytmbmbmkmjbpcpaa.PA
open Go Go.Proofs.Ytmbmbmkmjbpcpaa.Nums Go.RowKit Go.Proofs.YtmbmbmkmjbpcpaaW.PrintWords Go.Proofs.YtmbmbmkmjbpcpaaW.PrintLast Go.Proofs.YtmbmbmkmjbpcpaaW.PrintMore
set_option linter.unusedVariables false
theorem Bd.mod {k l : Nat} {y z : Int} (h : Bd k y) (h2 : Bd l z) : Bd (max k l) (y % z) := by
  have h1 := h.mono (Nat.le_max_left k l)
  have h3 := h2.mono (Nat.le_max_right k l)
  unfold Bd at *
  by_cases hz : z = 0
  · subst hz
    rw [Int.emod_zero]
    exact h1
  · have e1 := Int.emod_nonneg y hz
    have e2 : y % z < z.natAbs := by
      rcases Int.lt_or_le z 0 with h | h
      · have := Int.emod_lt_of_pos y (b := -z) (by omega)
        rw [Int.emod_neg] at this
        omega
      · have := Int.emod_lt_of_pos y (b := z) (by omega)
        omega
    omega
theorem abs_ne {z : Int} (h : z ≠ 0) : ¬ ((z.natAbs : Nat) : Int) = 0 := by omega
theorem nat_Div.semN {w : World} {v1 v2 : Value} {x y : Int} (m1 : MagV w v1 x) (m2 : MagV w v2 y) (h0 : ¬ y = 0) : Calls Try.prog 89 #[v1, v2] w (ResMMi w (x / y) (x % y) (.int .i64 0)) := by
  have h := nat_Div.sem m1 m2
  simp only [if_neg h0] at h
  exact h
theorem trunc_law {w : World} {b b2 : Bool} {v v2 : Value} {z z2 : Int} (h : NumV w b v z) (h2 : NumV w b2 v2 z2) (h0 : z2 ≠ 0) :
    zof b ((z.natAbs : Nat) % (z2.natAbs : Nat)) + z2 * zof (b != b2) ((z.natAbs : Nat) / (z2.natAbs : Nat)) = z ∧ (zof b ((z.natAbs : Nat) % (z2.natAbs : Nat))).natAbs < z2.natAbs := by
  have e := Int.emod_add_mul_ediv ((z.natAbs : Nat) : Int) ((z2.natAbs : Nat) : Int)
  have e1 := Int.emod_nonneg ((z.natAbs : Nat) : Int) (abs_ne h0)
  have e2 := Int.emod_lt_of_pos ((z.natAbs : Nat) : Int) (b := ((z2.natAbs : Nat) : Int)) (by omega)
  generalize ((z.natAbs : Nat) : Int) / ((z2.natAbs : Nat) : Int) = Q at *
  generalize ((z.natAbs : Nat) : Int) % ((z2.natAbs : Nat) : Int) = R at *
  rcases h.cases with ⟨rfl, k1⟩ | ⟨rfl, k1⟩ <;> rcases h2.cases with ⟨rfl, k2⟩ | ⟨rfl, k2⟩ <;> unfold zof <;> simp <;>
    (refine ⟨?_, by omega⟩) <;> (generalize z.natAbs = x at *) <;> (generalize z2.natAbs = y at *) <;> subst k1 <;> subst k2 <;> (try simp only [Int.neg_mul, Int.mul_neg, Int.neg_neg]) <;> omega
theorem floor_keep {a b q r : Int} (h0 : b ≠ 0) (h : r + b * q = a) (hr : r.natAbs < b.natAbs) (hs : r.sign = 0 ∨ r.sign = b.sign) : q = a.fdiv b ∧ r = a.fmod b := by
  rcases Int.lt_trichotomy b 0 with hb | hb | hb
  · have hr2 : r ≤ 0 := by
      rcases Int.lt_trichotomy r 0 with h1 | h1 | h1
      · omega
      · omega
      · rw [Int.sign_eq_one_of_pos h1, Int.sign_eq_neg_one_of_neg hb] at hs
        omega
    obtain ⟨e1, e2⟩ := (Int.fdiv_fmod_unique' hb).mpr ⟨h, by omega, hr2⟩
    exact ⟨e1.symm, e2.symm⟩
  · exact absurd hb h0
  · have hr2 : 0 ≤ r := by
      rcases Int.lt_trichotomy r 0 with h1 | h1 | h1
      · rw [Int.sign_eq_one_of_pos hb, Int.sign_eq_neg_one_of_neg h1] at hs
        omega
      · omega
      · omega
    obtain ⟨e1, e2⟩ := (Int.fdiv_fmod_unique hb).mpr ⟨h, hr2, by omega⟩
    exact ⟨e1.symm, e2.symm⟩
theorem floor_fix {a b q r : Int} (h0 : b ≠ 0) (h : r + b * q = a) (hr : r.natAbs < b.natAbs) (hs : r.sign ≠ 0) (hs2 : r.sign ≠ b.sign) : q - 1 = a.fdiv b ∧ r + b = a.fmod b := by
  have e : (r + b) + b * (q - 1) = a := by rw [Int.mul_sub, Int.mul_one]; omega
  rcases Int.lt_trichotomy b 0 with hb | hb | hb
  · have hr2 : 0 < r := by
      rcases Int.lt_trichotomy r 0 with h1 | h1 | h1
      · rw [Int.sign_eq_neg_one_of_neg h1, Int.sign_eq_neg_one_of_neg hb] at hs2
        omega
      · subst h1
        simp at hs
      · exact h1
    obtain ⟨e1, e2⟩ := (Int.fdiv_fmod_unique' hb).mpr ⟨e, by omega, by omega⟩
    exact ⟨e1.symm, e2.symm⟩
  · exact absurd hb h0
  · have hr2 : r < 0 := by
      rcases Int.lt_trichotomy r 0 with h1 | h1 | h1
      · exact h1
      · subst h1
        simp at hs
      · rw [Int.sign_eq_one_of_pos h1, Int.sign_eq_one_of_pos hb] at hs2
        omega
    obtain ⟨e1, e2⟩ := (Int.fdiv_fmod_unique hb).mpr ⟨e, by omega, by omega⟩
    exact ⟨e1.symm, e2.symm⟩
theorem fdiv_bd {k : Nat} {a b : Int} (h : Bd k a) : Bd (k + 1) (a.fdiv b) := by
  have h1 := h.div (Bd.lit (k := b.natAbs) (z := b) Nat.lt_two_pow_self)
  unfold Bd at *
  by_cases hb : b = 0
  · subst hb
    simp
    exact Nat.pow_pos (by omega)
  · have e3 : (a.fdiv b).natAbs ≤ a.natAbs := by
      have k1 := Int.fmod_add_mul_fdiv a b
      rcases Int.lt_trichotomy b 0 with h2 | h2 | h2
      · obtain ⟨-, k2, k3⟩ := (Int.fdiv_fmod_unique' (a := a) h2).mp ⟨rfl, rfl⟩
        generalize a.fdiv b = q at *
        generalize a.fmod b = r at *
        rcases Int.lt_or_le q 0 with hq | hq
        · have : 1 * (-q - 1) ≤ (-b) * (-q - 1) := Int.mul_le_mul_of_nonneg_right (by omega) (by omega)
          simp only [Int.mul_sub, Int.mul_one, Int.neg_mul_neg, Int.one_mul] at this
          omega
        · have : 1 * q ≤ (-b) * q := Int.mul_le_mul_of_nonneg_right (by omega) hq
          rw [Int.neg_mul] at this
          omega
      · exact absurd h2 hb
      · obtain ⟨-, k2, k3⟩ := (Int.fdiv_fmod_unique (a := a) h2).mp ⟨rfl, rfl⟩
        generalize a.fdiv b = q at *
        generalize a.fmod b = r at *
        rcases Int.lt_or_le q 0 with hq | hq
        · have : 1 * (-q - 1) ≤ b * (-q - 1) := Int.mul_le_mul_of_nonneg_right (by omega) (by omega)
          simp only [Int.mul_sub, Int.mul_one, Int.mul_neg, Int.one_mul] at this
          omega
        · have : 1 * q ≤ b * q := Int.mul_le_mul_of_nonneg_right (by omega) (by omega)
          omega
    have := Nat.lt_two_pow_self (n := k)
    rw [Nat.pow_succ]
    omega
end Go.Proofs.Ytmbmbmkmjbpcpaa.PA


/- Walks of Floor. -/
namespace Go.Proofs.Ytmbmbmkmjbpcpaa.PA
open Go Go.Proofs.Ytmbmbmkmjbpcpaa.Nums Go.RowKit Go.Proofs.YtmbmbmkmjbpcpaaW.PrintWords Go.Proofs.YtmbmbmkmjbpcpaaW.PrintLast Go.Proofs.YtmbmbmkmjbpcpaaW.PrintMore
set_option linter.unusedVariables false
set_option linter.unusedSimpArgs false
set_option maxHeartbeats 4000000 in
set_option maxRecDepth 100000 in
theorem zint_Floor.sem {w : World} {b1 : Bool} {v1 : Value} {z1 : Int} {b2 : Bool} {v2 : Value} {z2 : Int} (m1 : NumV w b1 v1 z1) (m2 : NumV w b2 v2 z2) (hb1 : Bd 150000000 z1) (hb2 : Bd 150000000 z2) (h0 : z2 ≠ 0) : Calls Try.prog 51 #[.agg #[.bool b1, v1], .agg #[.bool b2, v2]] w (ResIIi w (z1.fdiv z2) (z1.fmod z2) (.int .i64 0)) := by
  obtain ⟨A1, n1, c1, rfl⟩ := m1.form
  obtain ⟨A2, n2, c2, rfl⟩ := m2.form
  have Z := Zt.begin2 m1 m2
  have T := trunc_law m1 m2 h0
  go_enter Try.func51, Try.ntmps51
  refine wp_seq ?_
  refine wp_region_list ?_
  refine seq_box Z rfl rfl rfl ?_; clear Z; intro g1 W Z
  (try simp only [Act.put, List.setIfInBounds_toArray, List.set_cons_zero, List.set_cons_succ])
  refine seq_box Z rfl rfl rfl ?_; clear Z; intro g2 W Z
  (try simp only [Act.put, List.setIfInBounds_toArray, List.set_cons_zero, List.set_cons_succ])
  refine seq_alloc Z rfl rfl ?_; clear Z; intro g3 W Z
  (try simp only [Act.put, List.setIfInBounds_toArray, List.set_cons_zero, List.set_cons_succ])
  refine seq_alloc Z rfl rfl ?_; clear Z; intro g4 W Z
  (try simp only [Act.put, List.setIfInBounds_toArray, List.set_cons_zero, List.set_cons_succ])
  refine seq_is (v := .int .i64 (0)) rfl (run_assign rfl rfl) ?_
  (try simp only [Act.put, List.setIfInBounds_toArray, List.set_cons_zero, List.set_cons_succ])
  show Code.wp _ _ _ _ _
  refine wp_seq ?_
  refine wp_region_list ?_
  refine seq_is (v := .pointer (some ⟨g1, 1, none⟩)) rfl (run_field1 rfl rfl) ?_
  (try simp only [Act.put, List.setIfInBounds_toArray, List.set_cons_zero, List.set_cons_succ])
  refine seq_is (v := .slice A1 n1 c1) rfl (run_loadM rfl rfl (Z.bx 3 rfl)) ?_
  (try simp only [Act.put, List.setIfInBounds_toArray, List.set_cons_zero, List.set_cons_succ])
  refine seq_is (v := .pointer (some ⟨g2, 1, none⟩)) rfl (run_field1 rfl rfl) ?_
  (try simp only [Act.put, List.setIfInBounds_toArray, List.set_cons_zero, List.set_cons_succ])
  refine seq_is (v := .slice A2 n2 c2) rfl (run_loadM rfl rfl (Z.bx 2 rfl)) ?_
  (try simp only [Act.put, List.setIfInBounds_toArray, List.set_cons_zero, List.set_cons_succ])
  refine seq_call Z rfl rfl Try.func89 rfl rfl (args2 rfl rfl) (Z.callMMi (nat_Div.semN (Z.num 0 rfl).mag (Z.num 1 rfl).mag (abs_ne h0))) ?_; clear Z; intro x5 W Z
  (try simp only [Act.put, List.setIfInBounds_toArray, List.set_cons_zero, List.set_cons_succ])
  refine seq_is (v := .tuple #[x5.1.v, x5.2.v, .int .i64 (0)]) rfl (run_move rfl rfl) ?_
  (try simp only [Act.put, List.setIfInBounds_toArray, List.set_cons_zero, List.set_cons_succ])
  refine seq_is (v := x5.1.v) rfl (run_extract rfl rfl rfl) ?_
  (try simp only [Act.put, List.setIfInBounds_toArray, List.set_cons_zero, List.set_cons_succ])
  refine seq_is (v := x5.2.v) rfl (run_extract rfl rfl rfl) ?_
  (try simp only [Act.put, List.setIfInBounds_toArray, List.set_cons_zero, List.set_cons_succ])
  refine seq_is (v := .int .i64 (0)) rfl (run_extract rfl rfl rfl) ?_
  (try simp only [Act.put, List.setIfInBounds_toArray, List.set_cons_zero, List.set_cons_succ])
  refine seq_is (v := x5.1.v) rfl (run_assign rfl rfl) ?_
  (try simp only [Act.put, List.setIfInBounds_toArray, List.set_cons_zero, List.set_cons_succ])
  refine seq_is (v := x5.2.v) rfl (run_assign rfl rfl) ?_
  (try simp only [Act.put, List.setIfInBounds_toArray, List.set_cons_zero, List.set_cons_succ])
  refine seq_is (v := .int .i64 (0)) rfl (run_assign rfl rfl) ?_
  (try simp only [Act.put, List.setIfInBounds_toArray, List.set_cons_zero, List.set_cons_succ])
  show Code.wp _ _ _ _ _
  refine wp_seq ?_
  refine wp_seq ?_
  refine wp_region_list ?_
  refine seq_is (v := .int .i64 (0)) rfl (run_move rfl rfl) ?_
  (try simp only [Act.put, List.setIfInBounds_toArray, List.set_cons_zero, List.set_cons_succ])
  refine seq_is (v := .bool (decide ((0) ≠ (0)))) rfl (run_neqE rfl rfl rfl) ?_
  (try simp only [Act.put, List.setIfInBounds_toArray, List.set_cons_zero, List.set_cons_succ])
  show Code.wp _ _ _ _ _
  refine wp_cond_false rfl ?_
  refine wp_skip ?_
  show Code.wp _ _ _ _ _
  refine wp_seq ?_
  refine wp_dag (pre := [_, _, _, _, _, _, _, _, _, _, _, _, _]) (sps := [.is (.pointer (some ⟨g1, 0, none⟩)), .is (.bool (b1)), .is (.pointer (some ⟨g2, 0, none⟩)), .is (.bool (b2)), .is (.bool ((b1) != (b2))), .is (x5.1.v), spI w (zof ((b1) != (b2)) (((z1).natAbs : Nat) / ((z2).natAbs : Nat))), .is (.pointer (some ⟨g1, 0, none⟩)), .is (.bool (b1)), .is (x5.2.v), spI w (zof (b1) (((z1).natAbs : Nat) % ((z2).natAbs : Nat))), .box 25 #[.bool false, .slice none 0 0], .box 25 #[.bool false, .slice none 0 0]]) Z (by kernel_rfl) _ rfl (by kernel_rfl) (by kernel_rfl) rfl ⟨?_, ?_, ?_, ?_, ?_, ?_, ?_, ?_, ?_, ?_, ?_, ?_, ?_, trivial⟩ ?_
  · intro a e6 W Q Z; exact step_is (fun _ h => op_plain rfl rfl h) (run_field0 rfl (ev e6))
  · intro a x8 e9 W Q Z; exact step_is (fun _ h => op_plain rfl rfl h) (run_loadN rfl (ev e9) (Z.bx 3 rfl))
  · intro a e11 W Q Z; exact step_is (fun _ h => op_plain rfl rfl h) (run_field0 rfl (ev e11))
  · intro a x13 e14 W Q Z; exact step_is (fun _ h => op_plain rfl rfl h) (run_loadN rfl (ev e14) (Z.bx 2 rfl))
  · intro a x16 e17 x18 e19 W Q Z; exact step_is (fun _ h => op_plain rfl rfl h) (run_neqB rfl (ev e17) (ev e19))
  · intro a e21 W Q Z; exact step_is (fun _ h => op_plain rfl rfl h) (run_move rfl (ev e21))
  · intro a x23 e24 x25 e26 W Q Z; exact step_call (fun _ h => op_plain rfl rfl h) rfl Try.func69 rfl rfl (args2 (ev e24) (ev e26)) (Z.callI (zint_made.res (Z.ownM 0 rfl (Int.ediv_nonneg (by omega) (by omega)) (Bd.fm (Bd.div (Bd.abs hb1) (Bd.abs hb2)) (by decide)))))
  · intro a e28 W Q Z; exact step_is (fun _ h => op_plain rfl rfl h) (run_field0 rfl (ev e28))
  · intro a x30 e31 W Q Z; exact step_is (fun _ h => op_plain rfl rfl h) (run_loadN rfl (ev e31) (Z.bx 3 rfl))
  · intro a e33 W Q Z; exact step_is (fun _ h => op_plain rfl rfl h) (run_move rfl (ev e33))
  · intro a x35 e36 x37 e38 W Q Z; exact step_call (fun _ h => op_plain rfl rfl h) rfl Try.func69 rfl rfl (args2 (ev e36) (ev e38)) (Z.callI (zint_made.res (Z.ownM 1 rfl (Int.emod_nonneg _ (abs_ne h0)) (Bd.fm (Bd.mod (Bd.abs hb1) (Bd.abs hb2)) (by decide)))))
  · intro a W Q Z; exact step_box (fun _ h => op_plain rfl rfl h) (by decide) (run_alloc2 rfl)
  · intro a W Q Z; exact step_box (fun _ h => op_plain rfl rfl h) (by decide) (run_alloc2 rfl)
  clear Z; intro x7 x10 x12 x15 x20 x22 x27 x29 x32 x34 x39 g40 g41 W Z
  (try simp only [Act.put, List.setIfInBounds_toArray, List.set_cons_zero, List.set_cons_succ])
  refine seq_store Z 1 rfl rfl rfl rfl rfl ?_; clear Z; intro W Z
  (try simp only [Act.put, List.setIfInBounds_toArray, List.set_cons_zero, List.set_cons_succ])
  refine seq_store Z 0 rfl rfl rfl rfl rfl ?_; clear Z; intro W Z
  (try simp only [Act.put, List.setIfInBounds_toArray, List.set_cons_zero, List.set_cons_succ])
  show Code.wp _ _ _ _ _
  refine wp_seq ?_
  refine wp_seq ?_
  rcases Bool.eq_false_or_eq_true (decide (((zof (b1) (((z1).natAbs : Nat) % ((z2).natAbs : Nat))).sign) ≠ (0))) with hk56 | hk56
  · refine wp_dag (pre := [_, _, _, _, _, _, _, _, _, _]) (sps := [.is (.agg #[.bool (decide (zof (b1) (((z1).natAbs : Nat) % ((z2).natAbs : Nat)) < 0)), x39.v]), .is (.int .i64 ((zof (b1) (((z1).natAbs : Nat) % ((z2).natAbs : Nat))).sign)), .is (.bool (decide (((zof (b1) (((z1).natAbs : Nat) % ((z2).natAbs : Nat))).sign) ≠ (0)))), .is (.bool (decide (((zof (b1) (((z1).natAbs : Nat) % ((z2).natAbs : Nat))).sign) ≠ (0)))), .is (.agg #[.bool (decide (zof (b1) (((z1).natAbs : Nat) % ((z2).natAbs : Nat)) < 0)), x39.v]), .is (.int .i64 ((zof (b1) (((z1).natAbs : Nat) % ((z2).natAbs : Nat))).sign)), .is (.agg #[.bool (b2), .slice A2 n2 c2]), .is (.int .i64 ((z2).sign)), .is (.bool (decide (((zof (b1) (((z1).natAbs : Nat) % ((z2).natAbs : Nat))).sign) ≠ ((z2).sign)))), .is (.bool (decide (((zof (b1) (((z1).natAbs : Nat) % ((z2).natAbs : Nat))).sign) ≠ ((z2).sign))))]) Z (by kernel_rfl) _ rfl (by kernel_rfl) (by kernel_rfl) rfl ⟨?_, ?_, ?_, ?_, ?_, ?_, ?_, ?_, ?_, ?_, trivial⟩ ?_
    · intro a e57 W Q Z; exact step_is (fun _ h => op_plain rfl rfl h) (run_load2 rfl (ev e57) (Z.bx 0 rfl))
    · intro a x59 e60 W Q Z; exact step_call (fun _ h => op_plain rfl rfl h) rfl Try.func36 rfl rfl (args1 (ev e60)) (Z.callV (zint_Sign.sem (Z.own 0 rfl (Bd.fm (Bd.abs (Bd.zof (Bd.mod (Bd.abs hb1) (Bd.abs hb2)))) (by decide)))  ))
    · intro a x62 e63 W Q Z; exact step_is (fun _ h => op_plain rfl rfl h) (run_neq rfl (ev e63) rfl)
    · intro a x65 e66 W Q Z; exact step_is (fun _ h => op_plain rfl rfl h) (run_move rfl (ev e66))
    · intro a x68 e69 e70 W Q Z; exact step_is (fun _ h => op_want rfl rfl rfl (e69.trans (congrArg some (congrArg Value.bool hk56))) h) (run_load2 rfl (ev e70) (Z.bx 0 rfl))
    · intro a x72 e73 x74 e75 W Q Z; exact step_call (fun _ h => op_want rfl rfl rfl (e73.trans (congrArg some (congrArg Value.bool hk56))) h) rfl Try.func36 rfl rfl (args1 (ev e75)) (Z.callV (zint_Sign.sem (Z.own 0 rfl (Bd.fm (Bd.abs (Bd.zof (Bd.mod (Bd.abs hb1) (Bd.abs hb2)))) (by decide)))  ))
    · intro a x77 e78 e79 W Q Z; exact step_is (fun _ h => op_want rfl rfl rfl (e78.trans (congrArg some (congrArg Value.bool hk56))) h) (run_load2 rfl (ev e79) (Z.bx 4 rfl))
    · intro a x81 e82 x83 e84 W Q Z; exact step_call (fun _ h => op_want rfl rfl rfl (e82.trans (congrArg some (congrArg Value.bool hk56))) h) rfl Try.func36 rfl rfl (args1 (ev e84)) (Z.callV (zint_Sign.sem (Z.num 5 rfl)  ))
    · intro a x86 e87 x88 e89 x90 e91 W Q Z; exact step_is (fun _ h => op_want rfl rfl rfl (e87.trans (congrArg some (congrArg Value.bool hk56))) h) (run_neq rfl (ev e89) (ev e91))
    · intro a x93 e94 x95 e96 W Q Z; exact step_is (fun _ h => op_plain rfl rfl h) (run_pickT rfl ((show _ = Value.bool (decide (((zof (b1) (((z1).natAbs : Nat) % ((z2).natAbs : Nat))).sign) ≠ (0))) from (ev e94)).trans (congrArg Value.bool hk56)) (ev e96))
    clear Z; intro x58 x61 x64 x67 x71 x76 x80 x85 x92 x97 W Z
    (try simp only [Act.put, List.setIfInBounds_toArray, List.set_cons_zero, List.set_cons_succ])
    show Code.wp _ _ _ _ _
    refine wp_cond_split (t := decide (((zof (b1) (((z1).natAbs : Nat) % ((z2).natAbs : Nat))).sign) ≠ ((z2).sign))) rfl ?_ ?_
    · intro hc98
      refine wp_dag (pre := [_, _, _, _, _, _]) (sps := [.is (.agg #[.bool (decide (zof ((b1) != (b2)) (((z1).natAbs : Nat) / ((z2).natAbs : Nat)) < 0)), x27.v]), spI w (1), spI w ((zof ((b1) != (b2)) (((z1).natAbs : Nat) / ((z2).natAbs : Nat))) - (1)), .is (.agg #[.bool (decide (zof (b1) (((z1).natAbs : Nat) % ((z2).natAbs : Nat)) < 0)), x39.v]), .is (.agg #[.bool (b2), .slice A2 n2 c2]), spI w ((zof (b1) (((z1).natAbs : Nat) % ((z2).natAbs : Nat))) + (z2))]) Z (by kernel_rfl) _ rfl (by kernel_rfl) (by kernel_rfl) rfl ⟨?_, ?_, ?_, ?_, ?_, ?_, trivial⟩ ?_
      · intro a e99 W Q Z; exact step_is (fun _ h => op_plain rfl rfl h) (run_load2 rfl (ev e99) (Z.bx 1 rfl))
      · intro a W Q Z; exact step_call (fun _ h => op_plain rfl rfl h) rfl Try.func30 rfl rfl (args1 rfl) (Z.callI (zint_Of.sem (by omega) (by omega)))
      · intro a x102 e103 x104 e105 W Q Z; exact step_call (fun _ h => op_plain rfl rfl h) rfl Try.func21 rfl rfl (args2 (ev e103) (ev e105)) (Z.callI (zint_Sub.sem (Z.own 2 rfl (Bd.fm (Bd.abs (Bd.zof (Bd.div (Bd.abs hb1) (Bd.abs hb2)))) (by decide))) (Z.own 0 rfl (Bd.fm (Bd.abs (Bd.lit (k := 64) (by decide))) (by decide))) (Bd.fm (Bd.abs (Bd.neg (Bd.lit (k := 64) (by decide)))) (by decide)) (Bd.fm (Bd.add (Bd.abs (Bd.zof (Bd.div (Bd.abs hb1) (Bd.abs hb2)))) (Bd.abs (Bd.neg (Bd.lit (k := 64) (by decide))))) (by decide)) (Bd.fm (Bd.sub (Bd.abs (Bd.neg (Bd.lit (k := 64) (by decide)))) (Bd.abs (Bd.zof (Bd.div (Bd.abs hb1) (Bd.abs hb2))))) (by decide)) (Bd.fm (Bd.sub (Bd.abs (Bd.zof (Bd.div (Bd.abs hb1) (Bd.abs hb2)))) (Bd.abs (Bd.neg (Bd.lit (k := 64) (by decide))))) (by decide)) ))
      · intro a e107 W Q Z; exact step_is (fun _ h => op_plain rfl rfl h) (run_load2 rfl (ev e107) (Z.bx 0 rfl))
      · intro a e109 W Q Z; exact step_is (fun _ h => op_plain rfl rfl h) (run_load2 rfl (ev e109) (Z.bx 4 rfl))
      · intro a x111 e112 x113 e114 W Q Z; exact step_call (fun _ h => op_plain rfl rfl h) rfl Try.func19 rfl rfl (args2 (ev e112) (ev e114)) (Z.callI (zint_Add.sem (Z.own 0 rfl (Bd.fm (Bd.abs (Bd.zof (Bd.mod (Bd.abs hb1) (Bd.abs hb2)))) (by decide))) (Z.num 5 rfl) (Bd.fm (Bd.add (Bd.abs (Bd.zof (Bd.mod (Bd.abs hb1) (Bd.abs hb2)))) (Bd.abs hb2)) (by decide)) (Bd.fm (Bd.sub (Bd.abs hb2) (Bd.abs (Bd.zof (Bd.mod (Bd.abs hb1) (Bd.abs hb2))))) (by decide)) (Bd.fm (Bd.sub (Bd.abs (Bd.zof (Bd.mod (Bd.abs hb1) (Bd.abs hb2)))) (Bd.abs hb2)) (by decide)) ))
      clear Z; intro x100 x101 x106 x108 x110 x115 W Z
      (try simp only [Act.put, List.setIfInBounds_toArray, List.set_cons_zero, List.set_cons_succ])
      refine seq_store Z 1 rfl rfl rfl rfl rfl ?_; clear Z; intro W Z
      (try simp only [Act.put, List.setIfInBounds_toArray, List.set_cons_zero, List.set_cons_succ])
      refine seq_store Z 0 rfl rfl rfl rfl rfl ?_; clear Z; intro W Z
      (try simp only [Act.put, List.setIfInBounds_toArray, List.set_cons_zero, List.set_cons_succ])
      show Code.wp _ _ _ _ _
      refine wp_seq ?_
      refine wp_orders Z (by kernel_rfl) [[0, 1, 2, 3, 4], [0, 2, 1, 3, 4], [1, 0, 2, 3, 4]] (by kernel_rfl) ?_; clear Z; intro W Z o ho
      simp only [List.mem_cons, List.not_mem_nil, or_false] at ho; rcases ho with rfl | rfl | rfl
      · show wpList _ _ _ [_, _, _, _, _] _ _
        refine seq_is (v := .agg #[.bool (decide ((zof ((b1) != (b2)) (((z1).natAbs : Nat) / ((z2).natAbs : Nat))) - (1) < 0)), x106.v]) rfl (run_load2 rfl rfl (Z.bx 1 rfl)) ?_
        (try simp only [Act.put, List.setIfInBounds_toArray, List.set_cons_zero, List.set_cons_succ])
        refine seq_is (v := .agg #[.bool (decide ((zof (b1) (((z1).natAbs : Nat) % ((z2).natAbs : Nat))) + (z2) < 0)), x115.v]) rfl (run_load2 rfl rfl (Z.bx 0 rfl)) ?_
        (try simp only [Act.put, List.setIfInBounds_toArray, List.set_cons_zero, List.set_cons_succ])
        refine seq_store Z 3 rfl rfl rfl rfl rfl ?_; clear Z; intro W Z
        (try simp only [Act.put, List.setIfInBounds_toArray, List.set_cons_zero, List.set_cons_succ])
        refine seq_store Z 2 rfl rfl rfl rfl rfl ?_; clear Z; intro W Z
        (try simp only [Act.put, List.setIfInBounds_toArray, List.set_cons_zero, List.set_cons_succ])
        refine seq_is (v := .int .i64 (0)) rfl (run_assign rfl rfl) ?_
        (try simp only [Act.put, List.setIfInBounds_toArray, List.set_cons_zero, List.set_cons_succ])
        show Code.wp _ _ _ _ _
        refine wp_ret ?_
        exact Z.endsIIi (u := .int .i64 (0)) (x' := 0) 3 1 2 0 rfl rfl rfl rfl rfl rfl rfl rfl rfl (by exact (floor_fix h0 T.1 T.2 (of_decide_eq_true hk56) (of_decide_eq_true hc98)).1) (by exact (floor_fix h0 T.1 T.2 (of_decide_eq_true hk56) (of_decide_eq_true hc98)).2) (by rfl)
      · show wpList _ _ _ [_, _, _, _, _] _ _
        refine seq_is (v := .agg #[.bool (decide ((zof ((b1) != (b2)) (((z1).natAbs : Nat) / ((z2).natAbs : Nat))) - (1) < 0)), x106.v]) rfl (run_load2 rfl rfl (Z.bx 1 rfl)) ?_
        (try simp only [Act.put, List.setIfInBounds_toArray, List.set_cons_zero, List.set_cons_succ])
        refine seq_store Z 3 rfl rfl rfl rfl rfl ?_; clear Z; intro W Z
        (try simp only [Act.put, List.setIfInBounds_toArray, List.set_cons_zero, List.set_cons_succ])
        refine seq_is (v := .agg #[.bool (decide ((zof (b1) (((z1).natAbs : Nat) % ((z2).natAbs : Nat))) + (z2) < 0)), x115.v]) rfl (run_load2 rfl rfl (Z.bx 0 rfl)) ?_
        (try simp only [Act.put, List.setIfInBounds_toArray, List.set_cons_zero, List.set_cons_succ])
        refine seq_store Z 2 rfl rfl rfl rfl rfl ?_; clear Z; intro W Z
        (try simp only [Act.put, List.setIfInBounds_toArray, List.set_cons_zero, List.set_cons_succ])
        refine seq_is (v := .int .i64 (0)) rfl (run_assign rfl rfl) ?_
        (try simp only [Act.put, List.setIfInBounds_toArray, List.set_cons_zero, List.set_cons_succ])
        show Code.wp _ _ _ _ _
        refine wp_ret ?_
        exact Z.endsIIi (u := .int .i64 (0)) (x' := 0) 3 1 2 0 rfl rfl rfl rfl rfl rfl rfl rfl rfl (by exact (floor_fix h0 T.1 T.2 (of_decide_eq_true hk56) (of_decide_eq_true hc98)).1) (by exact (floor_fix h0 T.1 T.2 (of_decide_eq_true hk56) (of_decide_eq_true hc98)).2) (by rfl)
      · show wpList _ _ _ [_, _, _, _, _] _ _
        refine seq_is (v := .agg #[.bool (decide ((zof (b1) (((z1).natAbs : Nat) % ((z2).natAbs : Nat))) + (z2) < 0)), x115.v]) rfl (run_load2 rfl rfl (Z.bx 0 rfl)) ?_
        (try simp only [Act.put, List.setIfInBounds_toArray, List.set_cons_zero, List.set_cons_succ])
        refine seq_is (v := .agg #[.bool (decide ((zof ((b1) != (b2)) (((z1).natAbs : Nat) / ((z2).natAbs : Nat))) - (1) < 0)), x106.v]) rfl (run_load2 rfl rfl (Z.bx 1 rfl)) ?_
        (try simp only [Act.put, List.setIfInBounds_toArray, List.set_cons_zero, List.set_cons_succ])
        refine seq_store Z 3 rfl rfl rfl rfl rfl ?_; clear Z; intro W Z
        (try simp only [Act.put, List.setIfInBounds_toArray, List.set_cons_zero, List.set_cons_succ])
        refine seq_store Z 2 rfl rfl rfl rfl rfl ?_; clear Z; intro W Z
        (try simp only [Act.put, List.setIfInBounds_toArray, List.set_cons_zero, List.set_cons_succ])
        refine seq_is (v := .int .i64 (0)) rfl (run_assign rfl rfl) ?_
        (try simp only [Act.put, List.setIfInBounds_toArray, List.set_cons_zero, List.set_cons_succ])
        show Code.wp _ _ _ _ _
        refine wp_ret ?_
        exact Z.endsIIi (u := .int .i64 (0)) (x' := 0) 3 1 2 0 rfl rfl rfl rfl rfl rfl rfl rfl rfl (by exact (floor_fix h0 T.1 T.2 (of_decide_eq_true hk56) (of_decide_eq_true hc98)).1) (by exact (floor_fix h0 T.1 T.2 (of_decide_eq_true hk56) (of_decide_eq_true hc98)).2) (by rfl)
    · intro hc98
      refine wp_skip ?_
      show Code.wp _ _ _ _ _
      refine wp_seq ?_
      refine wp_orders Z (by kernel_rfl) [[0, 1, 2, 3, 4], [0, 2, 1, 3, 4], [1, 0, 2, 3, 4]] (by kernel_rfl) ?_; clear Z; intro W Z o ho
      simp only [List.mem_cons, List.not_mem_nil, or_false] at ho; rcases ho with rfl | rfl | rfl
      · show wpList _ _ _ [_, _, _, _, _] _ _
        refine seq_is (v := .agg #[.bool (decide (zof ((b1) != (b2)) (((z1).natAbs : Nat) / ((z2).natAbs : Nat)) < 0)), x27.v]) rfl (run_load2 rfl rfl (Z.bx 1 rfl)) ?_
        (try simp only [Act.put, List.setIfInBounds_toArray, List.set_cons_zero, List.set_cons_succ])
        refine seq_is (v := .agg #[.bool (decide (zof (b1) (((z1).natAbs : Nat) % ((z2).natAbs : Nat)) < 0)), x39.v]) rfl (run_load2 rfl rfl (Z.bx 0 rfl)) ?_
        (try simp only [Act.put, List.setIfInBounds_toArray, List.set_cons_zero, List.set_cons_succ])
        refine seq_store Z 3 rfl rfl rfl rfl rfl ?_; clear Z; intro W Z
        (try simp only [Act.put, List.setIfInBounds_toArray, List.set_cons_zero, List.set_cons_succ])
        refine seq_store Z 2 rfl rfl rfl rfl rfl ?_; clear Z; intro W Z
        (try simp only [Act.put, List.setIfInBounds_toArray, List.set_cons_zero, List.set_cons_succ])
        refine seq_is (v := .int .i64 (0)) rfl (run_assign rfl rfl) ?_
        (try simp only [Act.put, List.setIfInBounds_toArray, List.set_cons_zero, List.set_cons_succ])
        show Code.wp _ _ _ _ _
        refine wp_ret ?_
        exact Z.endsIIi (u := .int .i64 (0)) (x' := 0) 3 1 2 0 rfl rfl rfl rfl rfl rfl rfl rfl rfl (by exact (floor_keep h0 T.1 T.2 (.inr (Classical.not_not.mp (of_decide_eq_false hc98)))).1) (by exact (floor_keep h0 T.1 T.2 (.inr (Classical.not_not.mp (of_decide_eq_false hc98)))).2) (by rfl)
      · show wpList _ _ _ [_, _, _, _, _] _ _
        refine seq_is (v := .agg #[.bool (decide (zof ((b1) != (b2)) (((z1).natAbs : Nat) / ((z2).natAbs : Nat)) < 0)), x27.v]) rfl (run_load2 rfl rfl (Z.bx 1 rfl)) ?_
        (try simp only [Act.put, List.setIfInBounds_toArray, List.set_cons_zero, List.set_cons_succ])
        refine seq_store Z 3 rfl rfl rfl rfl rfl ?_; clear Z; intro W Z
        (try simp only [Act.put, List.setIfInBounds_toArray, List.set_cons_zero, List.set_cons_succ])
        refine seq_is (v := .agg #[.bool (decide (zof (b1) (((z1).natAbs : Nat) % ((z2).natAbs : Nat)) < 0)), x39.v]) rfl (run_load2 rfl rfl (Z.bx 0 rfl)) ?_
        (try simp only [Act.put, List.setIfInBounds_toArray, List.set_cons_zero, List.set_cons_succ])
        refine seq_store Z 2 rfl rfl rfl rfl rfl ?_; clear Z; intro W Z
        (try simp only [Act.put, List.setIfInBounds_toArray, List.set_cons_zero, List.set_cons_succ])
        refine seq_is (v := .int .i64 (0)) rfl (run_assign rfl rfl) ?_
        (try simp only [Act.put, List.setIfInBounds_toArray, List.set_cons_zero, List.set_cons_succ])
        show Code.wp _ _ _ _ _
        refine wp_ret ?_
        exact Z.endsIIi (u := .int .i64 (0)) (x' := 0) 3 1 2 0 rfl rfl rfl rfl rfl rfl rfl rfl rfl (by exact (floor_keep h0 T.1 T.2 (.inr (Classical.not_not.mp (of_decide_eq_false hc98)))).1) (by exact (floor_keep h0 T.1 T.2 (.inr (Classical.not_not.mp (of_decide_eq_false hc98)))).2) (by rfl)
      · show wpList _ _ _ [_, _, _, _, _] _ _
        refine seq_is (v := .agg #[.bool (decide (zof (b1) (((z1).natAbs : Nat) % ((z2).natAbs : Nat)) < 0)), x39.v]) rfl (run_load2 rfl rfl (Z.bx 0 rfl)) ?_
        (try simp only [Act.put, List.setIfInBounds_toArray, List.set_cons_zero, List.set_cons_succ])
        refine seq_is (v := .agg #[.bool (decide (zof ((b1) != (b2)) (((z1).natAbs : Nat) / ((z2).natAbs : Nat)) < 0)), x27.v]) rfl (run_load2 rfl rfl (Z.bx 1 rfl)) ?_
        (try simp only [Act.put, List.setIfInBounds_toArray, List.set_cons_zero, List.set_cons_succ])
        refine seq_store Z 3 rfl rfl rfl rfl rfl ?_; clear Z; intro W Z
        (try simp only [Act.put, List.setIfInBounds_toArray, List.set_cons_zero, List.set_cons_succ])
        refine seq_store Z 2 rfl rfl rfl rfl rfl ?_; clear Z; intro W Z
        (try simp only [Act.put, List.setIfInBounds_toArray, List.set_cons_zero, List.set_cons_succ])
        refine seq_is (v := .int .i64 (0)) rfl (run_assign rfl rfl) ?_
        (try simp only [Act.put, List.setIfInBounds_toArray, List.set_cons_zero, List.set_cons_succ])
        show Code.wp _ _ _ _ _
        refine wp_ret ?_
        exact Z.endsIIi (u := .int .i64 (0)) (x' := 0) 3 1 2 0 rfl rfl rfl rfl rfl rfl rfl rfl rfl (by exact (floor_keep h0 T.1 T.2 (.inr (Classical.not_not.mp (of_decide_eq_false hc98)))).1) (by exact (floor_keep h0 T.1 T.2 (.inr (Classical.not_not.mp (of_decide_eq_false hc98)))).2) (by rfl)
  · refine wp_dag (pre := [_, _, _, _, _, _, _, _, _, _]) (sps := [.is (.agg #[.bool (decide (zof (b1) (((z1).natAbs : Nat) % ((z2).natAbs : Nat)) < 0)), x39.v]), .is (.int .i64 ((zof (b1) (((z1).natAbs : Nat) % ((z2).natAbs : Nat))).sign)), .is (.bool (decide (((zof (b1) (((z1).natAbs : Nat) % ((z2).natAbs : Nat))).sign) ≠ (0)))), .is (.bool (decide (((zof (b1) (((z1).natAbs : Nat) % ((z2).natAbs : Nat))).sign) ≠ (0)))), .is undef, .is undef, .is undef, .is undef, .is undef, .is (.bool (false))]) Z (by kernel_rfl) _ rfl (by kernel_rfl) (by kernel_rfl) rfl ⟨?_, ?_, ?_, ?_, ?_, ?_, ?_, ?_, ?_, ?_, trivial⟩ ?_
    · intro a e116 W Q Z; exact step_is (fun _ h => op_plain rfl rfl h) (run_load2 rfl (ev e116) (Z.bx 0 rfl))
    · intro a x118 e119 W Q Z; exact step_call (fun _ h => op_plain rfl rfl h) rfl Try.func36 rfl rfl (args1 (ev e119)) (Z.callV (zint_Sign.sem (Z.own 0 rfl (Bd.fm (Bd.abs (Bd.zof (Bd.mod (Bd.abs hb1) (Bd.abs hb2)))) (by decide)))  ))
    · intro a x121 e122 W Q Z; exact step_is (fun _ h => op_plain rfl rfl h) (run_neq rfl (ev e122) rfl)
    · intro a x124 e125 W Q Z; exact step_is (fun _ h => op_plain rfl rfl h) (run_move rfl (ev e125))
    · intro a x127 e128 e129 W Q Z; exact step_un rfl rfl rfl (e128.trans (congrArg some (congrArg Value.bool hk56))) (by decide)
    · intro a x131 e132 x133 e134 W Q Z; exact step_un rfl rfl rfl (e132.trans (congrArg some (congrArg Value.bool hk56))) (by decide)
    · intro a x136 e137 e138 W Q Z; exact step_un rfl rfl rfl (e137.trans (congrArg some (congrArg Value.bool hk56))) (by decide)
    · intro a x140 e141 x142 e143 W Q Z; exact step_un rfl rfl rfl (e141.trans (congrArg some (congrArg Value.bool hk56))) (by decide)
    · intro a x145 e146 x147 e148 x149 e150 W Q Z; exact step_un rfl rfl rfl (e146.trans (congrArg some (congrArg Value.bool hk56))) (by decide)
    · intro a x152 e153 x154 e155 W Q Z; exact step_is (fun _ h => op_plain rfl rfl h) (run_pickF rfl ((show _ = Value.bool (decide (((zof (b1) (((z1).natAbs : Nat) % ((z2).natAbs : Nat))).sign) ≠ (0))) from (ev e153)).trans (congrArg Value.bool hk56)) rfl)
    clear Z; intro x117 x120 x123 x126 x130 x135 x139 x144 x151 x156 W Z
    (try simp only [Act.put, List.setIfInBounds_toArray, List.set_cons_zero, List.set_cons_succ])
    show Code.wp _ _ _ _ _
    refine wp_cond_false rfl ?_
    refine wp_skip ?_
    show Code.wp _ _ _ _ _
    refine wp_seq ?_
    refine wp_orders Z (by kernel_rfl) [[0, 1, 2, 3, 4], [0, 2, 1, 3, 4], [1, 0, 2, 3, 4]] (by kernel_rfl) ?_; clear Z; intro W Z o ho
    simp only [List.mem_cons, List.not_mem_nil, or_false] at ho; rcases ho with rfl | rfl | rfl
    · show wpList _ _ _ [_, _, _, _, _] _ _
      refine seq_is (v := .agg #[.bool (decide (zof ((b1) != (b2)) (((z1).natAbs : Nat) / ((z2).natAbs : Nat)) < 0)), x27.v]) rfl (run_load2 rfl rfl (Z.bx 1 rfl)) ?_
      (try simp only [Act.put, List.setIfInBounds_toArray, List.set_cons_zero, List.set_cons_succ])
      refine seq_is (v := .agg #[.bool (decide (zof (b1) (((z1).natAbs : Nat) % ((z2).natAbs : Nat)) < 0)), x39.v]) rfl (run_load2 rfl rfl (Z.bx 0 rfl)) ?_
      (try simp only [Act.put, List.setIfInBounds_toArray, List.set_cons_zero, List.set_cons_succ])
      refine seq_store Z 3 rfl rfl rfl rfl rfl ?_; clear Z; intro W Z
      (try simp only [Act.put, List.setIfInBounds_toArray, List.set_cons_zero, List.set_cons_succ])
      refine seq_store Z 2 rfl rfl rfl rfl rfl ?_; clear Z; intro W Z
      (try simp only [Act.put, List.setIfInBounds_toArray, List.set_cons_zero, List.set_cons_succ])
      refine seq_is (v := .int .i64 (0)) rfl (run_assign rfl rfl) ?_
      (try simp only [Act.put, List.setIfInBounds_toArray, List.set_cons_zero, List.set_cons_succ])
      show Code.wp _ _ _ _ _
      refine wp_ret ?_
      exact Z.endsIIi (u := .int .i64 (0)) (x' := 0) 3 1 2 0 rfl rfl rfl rfl rfl rfl rfl rfl rfl (by exact (floor_keep h0 T.1 T.2 (.inl (Classical.not_not.mp (of_decide_eq_false hk56)))).1) (by exact (floor_keep h0 T.1 T.2 (.inl (Classical.not_not.mp (of_decide_eq_false hk56)))).2) (by rfl)
    · show wpList _ _ _ [_, _, _, _, _] _ _
      refine seq_is (v := .agg #[.bool (decide (zof ((b1) != (b2)) (((z1).natAbs : Nat) / ((z2).natAbs : Nat)) < 0)), x27.v]) rfl (run_load2 rfl rfl (Z.bx 1 rfl)) ?_
      (try simp only [Act.put, List.setIfInBounds_toArray, List.set_cons_zero, List.set_cons_succ])
      refine seq_store Z 3 rfl rfl rfl rfl rfl ?_; clear Z; intro W Z
      (try simp only [Act.put, List.setIfInBounds_toArray, List.set_cons_zero, List.set_cons_succ])
      refine seq_is (v := .agg #[.bool (decide (zof (b1) (((z1).natAbs : Nat) % ((z2).natAbs : Nat)) < 0)), x39.v]) rfl (run_load2 rfl rfl (Z.bx 0 rfl)) ?_
      (try simp only [Act.put, List.setIfInBounds_toArray, List.set_cons_zero, List.set_cons_succ])
      refine seq_store Z 2 rfl rfl rfl rfl rfl ?_; clear Z; intro W Z
      (try simp only [Act.put, List.setIfInBounds_toArray, List.set_cons_zero, List.set_cons_succ])
      refine seq_is (v := .int .i64 (0)) rfl (run_assign rfl rfl) ?_
      (try simp only [Act.put, List.setIfInBounds_toArray, List.set_cons_zero, List.set_cons_succ])
      show Code.wp _ _ _ _ _
      refine wp_ret ?_
      exact Z.endsIIi (u := .int .i64 (0)) (x' := 0) 3 1 2 0 rfl rfl rfl rfl rfl rfl rfl rfl rfl (by exact (floor_keep h0 T.1 T.2 (.inl (Classical.not_not.mp (of_decide_eq_false hk56)))).1) (by exact (floor_keep h0 T.1 T.2 (.inl (Classical.not_not.mp (of_decide_eq_false hk56)))).2) (by rfl)
    · show wpList _ _ _ [_, _, _, _, _] _ _
      refine seq_is (v := .agg #[.bool (decide (zof (b1) (((z1).natAbs : Nat) % ((z2).natAbs : Nat)) < 0)), x39.v]) rfl (run_load2 rfl rfl (Z.bx 0 rfl)) ?_
      (try simp only [Act.put, List.setIfInBounds_toArray, List.set_cons_zero, List.set_cons_succ])
      refine seq_is (v := .agg #[.bool (decide (zof ((b1) != (b2)) (((z1).natAbs : Nat) / ((z2).natAbs : Nat)) < 0)), x27.v]) rfl (run_load2 rfl rfl (Z.bx 1 rfl)) ?_
      (try simp only [Act.put, List.setIfInBounds_toArray, List.set_cons_zero, List.set_cons_succ])
      refine seq_store Z 3 rfl rfl rfl rfl rfl ?_; clear Z; intro W Z
      (try simp only [Act.put, List.setIfInBounds_toArray, List.set_cons_zero, List.set_cons_succ])
      refine seq_store Z 2 rfl rfl rfl rfl rfl ?_; clear Z; intro W Z
      (try simp only [Act.put, List.setIfInBounds_toArray, List.set_cons_zero, List.set_cons_succ])
      refine seq_is (v := .int .i64 (0)) rfl (run_assign rfl rfl) ?_
      (try simp only [Act.put, List.setIfInBounds_toArray, List.set_cons_zero, List.set_cons_succ])
      show Code.wp _ _ _ _ _
      refine wp_ret ?_
      exact Z.endsIIi (u := .int .i64 (0)) (x' := 0) 3 1 2 0 rfl rfl rfl rfl rfl rfl rfl rfl rfl (by exact (floor_keep h0 T.1 T.2 (.inl (Classical.not_not.mp (of_decide_eq_false hk56)))).1) (by exact (floor_keep h0 T.1 T.2 (.inl (Classical.not_not.mp (of_decide_eq_false hk56)))).2) (by rfl)
end Go.Proofs.Ytmbmbmkmjbpcpaa.PA


/- Walks of Near and Exact. -/
namespace Go.Proofs.Ytmbmbmkmjbpcpaa.PA
open Go Go.Proofs.Ytmbmbmkmjbpcpaa.Nums Go.RowKit Go.Proofs.YtmbmbmkmjbpcpaaW.PrintWords Go.Proofs.YtmbmbmkmjbpcpaaW.PrintLast Go.Proofs.YtmbmbmkmjbpcpaaW.PrintMore
set_option linter.unusedVariables false
set_option linter.unusedSimpArgs false
def nearZ (a b : Int) : Int := (2 * a + b).fdiv (2 * b)
theorem Bd.near {k l : Nat} {a b : Int} (h : Bd k a) (h2 : Bd l b) : Bd (max (k + 2) l + 1 + 1) (nearZ a b) := by
  refine fdiv_bd (Bd.add ?_ h2)
  have := (Bd.lit (k := 2) (z := 2) (by decide)).mul h
  rw [Nat.add_comm k 2]
  exact this
end Go.Proofs.Ytmbmbmkmjbpcpaa.PA

