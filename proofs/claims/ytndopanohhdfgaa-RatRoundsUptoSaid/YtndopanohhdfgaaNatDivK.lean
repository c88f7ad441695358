/- Quotient and rest of numbers of words, of the program and of the reference; for lists of at most 1000000 limbs (the reference: 100000000). -/
import Derived.Test.YtndopanohhdfgaaDivCK
import Derived.Test.YtndopanohhdfgaaNatBK
import Derived.Test.YtndopanohhdfgaaPAx12K
import Derived.Test.YtndopanohhdfgaaPAx14K
import Derived.Test.YtndopanohhdfgaaPAx7K
namespace Go.Proofs.Ytndopanohhdfgaa.PA
open Go Go.RowKit Go.Proofs.YtndopanohhdfgaaW.PrintWords Go.Proofs.YtndopanohhdfgaaW.PrintLast Go.Proofs.YtndopanohhdfgaaW.PrintMore
open Go.Proofs.Ytndopanohhdfgaa.Nums
set_option linter.unusedVariables false
/-- what a quotient answers -/
def divR (a b : List Int) : List Int × List Int × Int := if val b = 0 then ([], [], 11) else (lm (val a / val b), lm (val a % val b), 0)
theorem trim_pos {b : List Int} (ob : Ok b) (h : trim b ≠ []) : 0 < val b := by
  have h1 := nrm_top (trim_ok ob) (trim_nrm b) h
  have h2 := Bp_pos ((trim b).length - 1)
  rw [trim_val] at h1; omega
theorem trim_nil {b : List Int} (ob : Ok b) (h : val b = 0) : trim b = [] := by rw [trim_lm ob, h, lm_zero]
theorem len_one {b : List Int} (h : b.length = 1) : b = [rd b 0] := by
  match b, h with
  | [x], _ => simp [rd]
theorem div_f (a b : List Int) (oa : Ok a) (ob : Ok b) (hla : a.length ≤ 35184372088000) (hlb : b.length ≤ 35184372088000) : Ev (fun k => nat_Div.f k a b) (divR a b) := by
  unfold nat_Div.f
  have ta := trim_len a
  have tb := trim_len b
  by_cases hL : LongCond a b
  · refine ev_pos hL (ev_now ?_)
    obtain ⟨-, -, -, -, h2, -⟩ := hL
    have := trim_pos ob (by intro e; rw [e] at h2; simp at h2)
    unfold divR; rw [if_neg (by omega)]
  · refine ev_neg hL ?_
    unfold nat_DivP.f
    refine Ev.bind (trim_f a (by omega)) (Ev.bind (trim_f b (by omega)) ?_)
    by_cases h0 : val b = 0
    · refine ev_pos (by rw [trim_nil ob h0]; rfl) (ev_now ?_)
      unfold divR; rw [if_pos h0]
    · have hb0 := val_nonneg ob
      have ha0 := val_nonneg oa
      have hne : trim b ≠ [] := by intro e; rw [trim_lm ob] at e; exact h0 ((lm_eq_nil hb0).mp e)
      have hl1 : 1 ≤ (trim b).length := by
        rcases Nat.eq_zero_or_pos (trim b).length with h | h
        · exact absurd (List.length_eq_zero_iff.mp h) hne
        · exact h
      unfold divR
      rw [if_neg h0]
      refine ev_neg (by omega) ?_
      refine Ev.bind (cmp_f (trim a) (trim b) (trim_ok oa) (trim_ok ob) (by omega) (by omega)) ?_
      rw [trim_val, trim_val]
      by_cases hlt : val a < val b
      · refine ev_pos (by unfold cmp; rw [if_pos hlt]; omega) ?_
        refine Ev.bind (norm_f (trim a) (by omega)) (ev_now ?_)
        rw [trim_lm (trim_ok oa), trim_val, Int.ediv_eq_zero_of_lt ha0 hlt, Int.emod_eq_of_lt ha0 hlt, lm_zero]
      · refine ev_neg (by unfold cmp; rw [if_neg hlt]; split <;> omega) ?_
        have hl : (trim b).length = 1 := by
          have : ¬ 2 ≤ (trim b).length := fun h2 => hL ⟨oa, ob, hla, hlb, h2, by omega⟩
          omega
        have hb : val b = rd (trim b) 0 := by rw [← trim_val b, len_one hl]; simp [val, rd]
        have hr := rd_ok (trim_ok ob) 0
        refine ev_pos (by omega) (ev_pos (by omega) ?_)
        rw [← hb] at hr ⊢
        refine Ev.bind (short_f (trim a) (trim_ok oa) (by omega) (val b) (by omega) hr.2) ?_
        rw [trim_val]
        have hm0 : 0 ≤ val a % val b := Int.emod_nonneg _ h0
        have hm1 : val a % val b < val b := Int.emod_lt_of_pos _ (by omega)
        have or : Ok [val a % val b] := ok_cons.mpr ⟨⟨hm0, by omega⟩, ok_nil⟩
        refine Ev.bind (trim_own_f _ (by simp)) (ev_now ?_)
        simp only []
        rw [trim_lm or, val_single]
/-- the reference's guess goes down to the very digit -/
theorem rdiv_l1 {x7 u v q : List Int} {V r : Int} {i : Nat} (hv : v = lm V) (hV : 0 < V) (hVl : (lm V).length ≤ 100000000) (hr : 0 ≤ r) (hrl : (lm r).length ≤ 100000001) (hi : i < q.length) (hql : q.length ≤ 1000000000) (R : List Int × List Int × Int)
    (next : Ev (fun k => trammelref01_Div.l0 k x7 u v (q.set i (r / V)) (lm (r % V)) ((i : Int) - 1)) R) (d : Nat) :
    ∀ (g : Int), g = r / V + d → g < 4294967296 → Ev (fun k => trammelref01_Div.l1 k x7 u v q (lm r) (i : Int) g (lm (g * V))) R := by
  subst hv
  have hq0 : 0 ≤ r / V := Int.ediv_nonneg hr (by omega)
  have dm := div_mul_le r V hV
  have hmod := Int.mul_ediv_add_emod r V
  have hm0 := Int.emod_nonneg r (show V ≠ 0 by omega)
  have MOD := Aside0.mk hmod
  clear hmod
  have oV := lm_ok V
  have or := lm_ok r
  induction d with
  | zero =>
    intro g hg hg1
    have e : g = r / V := by omega
    subst e
    have hp0 : 0 ≤ r / V * V := Int.mul_nonneg hq0 (by omega)
    have hlp : (lm (r / V * V)).length ≤ 100000001 := by
      have := lm_len_le hp0 (n := (lm r).length) (by have := val_lt or; rw [lm_val hr] at this; omega)
      omega
    refine Ev.step (fun k => by rw [trammelref01_Div.l1]) ?_
    refine Ev.bind (rcmp_f (lm (r / V * V)) (lm r) (lm_ok _) or (by omega) (by omega)) ?_
    rw [lm_val hp0, lm_val hr]
    refine ev_neg (by unfold cmp; split <;> (try split) <;> omega) ?_
    refine ev_pos (by omega) (ev_pos (by omega) ?_)
    refine Ev.bind (rless_f (lm r) (lm (r / V * V)) or (lm_ok _) (by omega) (by rw [lm_val hp0, lm_val hr]; exact dm.1)) ?_
    rw [lm_val hp0, lm_val hr, Int.toNat_natCast]
    have e2 : r - r / V * V = r % V := by have := MOD.out; rw [Int.mul_comm] at this; omega
    have e3 : r / V % 4294967296 = r / V := by omega
    rw [e2, e3, w64 (by omega) (by omega)]
    exact next
  | succ d ih =>
    intro g hg hg1
    have hgp : r / V + 1 ≤ g := by omega
    have h1 : (r / V + 1) * V ≤ g * V := Int.mul_le_mul_of_nonneg_right hgp (by omega)
    have hp0 : 0 ≤ g * V := Int.mul_nonneg (by omega) (by omega)
    have hlp : (lm (g * V)).length ≤ 100000001 := by
      have h2 := lm_len_le hp0 (n := (lm V).length + 1) (by
        have h3 := val_lt oV
        rw [lm_val (by omega)] at h3
        rw [Bp_succ]
        have h4 : g * V ≤ 4294967296 * V := Int.mul_le_mul_of_nonneg_right (by omega) (by omega)
        omega)
      omega
    refine Ev.step (fun k => by rw [trammelref01_Div.l1]) ?_
    refine Ev.bind (rcmp_f (lm (g * V)) (lm r) (lm_ok _) or (by omega) (by omega)) ?_
    rw [lm_val hp0, lm_val hr]
    refine ev_pos (by unfold cmp; rw [if_neg (by omega), if_neg (by omega)]; omega) ?_
    refine Ev.bind (rless_f (lm (g * V)) (lm V) (lm_ok _) oV (by omega) (by
      rw [lm_val hp0, lm_val (by omega)]
      have : 1 * V ≤ g * V := Int.mul_le_mul_of_nonneg_right (by omega) (by omega)
      omega)) ?_
    rw [lm_val hp0, lm_val (by omega), u64w (by omega) (by omega)]
    have e : g * V - V = (g - 1) * V := by rw [Int.sub_mul, Int.one_mul]
    rw [e]
    exact ih (g - 1) (by omega) (by omega)
theorem single_mul {V g : Int} (hV : 0 < V) (hVl : (lm V).length ≤ 100000000) (h0 : 0 ≤ g) (h1 : g < 4294967296) : Ev (fun k => trammelref01_Mul.f k (lm V) [g % 4294967296]) (lm (g * V)) := by
  have e : g % 4294967296 = g := by omega
  rw [e]
  have h := rmul_f (lm V) [g] (lm_ok V) (ok_cons.mpr ⟨⟨h0, h1⟩, ok_nil⟩) (by simp; omega)
  rw [lm_val (by omega), val_single, Int.mul_comm] at h
  exact h
theorem rdiv_guess {l v : List Int} {n1 : Nat} (ol : Ok l) (ov : Ok v) (hn : v.length = n1 + 1) (hll : l.length ≤ n1 + 2) (ht : 0 < v.getD n1 0) (hlt : val l < val v * 4294967296) :
    val l / val v ≤ (l.getD (n1 + 1) 0 * 4294967296 + l.getD n1 0) / v.getD n1 0 := by
  have hE := Bp_pos n1
  have hv : val v = v.getD n1 0 * Bp n1 + val (v.take n1) := by
    rw [val_split v n1, val_drop_cons v n1 (by omega), List.drop_of_length_le (by omega), val_nil, Int.mul_zero, Int.add_zero, Int.mul_comm]; omega
  have hl : val l = (l.getD (n1 + 1) 0 * 4294967296 + l.getD n1 0) * Bp n1 + val (l.take n1) := by
    rw [val_split l n1, val_drop_any l n1, val_drop_any l (n1 + 1), List.drop_of_length_le (by omega), val_nil, Int.mul_comm]
    have : l.getD n1 0 + 4294967296 * (l.getD (n1 + 1) 0 + 4294967296 * 0) = l.getD (n1 + 1) 0 * 4294967296 + l.getD n1 0 := by omega
    rw [this]; omega
  have hv0 := val_nonneg (ok_take ov n1)
  have hV : 0 < val v := by
    have : 0 < v.getD n1 0 * Bp n1 := Int.mul_pos ht hE
    omega
  exact guess_ge hE ht hv0 hv hl (take_lt ol n1) _ (Int.ediv_nonneg (val_nonneg ol) (by omega)) (div_mul_le _ _ hV).1
theorem rdiv_j1 {x7 u q : List Int} {V r g : Int} {i : Nat} (hV : 0 < V) (hVl : (lm V).length ≤ 100000000) (hr : 0 ≤ r) (hrl : (lm r).length ≤ 100000001) (hi : i < q.length) (hql : q.length ≤ 1000000000) (R : List Int × List Int × Int)
    (hg : r / V ≤ g) (hg1 : g < 4294967296)
    (next : Ev (fun k => trammelref01_Div.l0 k x7 u (lm V) (q.set i (r / V)) (lm (r % V)) ((i : Int) - 1)) R) :
    Ev (fun k => trammelref01_Div.j1 k x7 u (lm V) q (lm r) (i : Int) g) R := by
  have hq0 : 0 ≤ r / V := Int.ediv_nonneg hr (by omega)
  refine Ev.step (fun k => by rw [trammelref01_Div.j1]) ?_
  refine Ev.bind (single_mul hV hVl (by omega) hg1) ?_
  exact rdiv_l1 rfl hV hVl hr hrl hi hql R next (g - r / V).toNat g (by omega) hg1
theorem guess64 {a b c : Int} (ga : 0 ≤ a ∧ a < 4294967296) (gb : 0 ≤ b ∧ b < 4294967296) (gc : 0 < c) : IntKind.u64.wrap (Int.tdiv (IntKind.u64.wrap ((IntKind.u64.wrap (a * 4294967296)) + b)) c) = (a * 4294967296 + b) / c := by
  have h1 : 0 ≤ (a * 4294967296 + b) / c := Int.ediv_nonneg (by omega) (by omega)
  have h2 : (a * 4294967296 + b) / c ≤ a * 4294967296 + b := Int.ediv_le_self _ (by omega)
  rw [u64w (n := a * 4294967296) (by omega) (by omega), u64w (n := a * 4294967296 + b) (by omega) (by omega), Int.tdiv_eq_ediv_of_nonneg (by omega), u64w h1 (by omega)]
theorem rdA {U D Q V r x r1 : Int} (h : D = Q * V + r) (hu : U = x + 4294967296 * D) (hr1 : r1 = x + 4294967296 * r) : U = (4294967296 * Q) * V + r1 := by subst hr1; rw [hu, h]; grind
theorem rdiv_l0 {x7 u : List Int} {V : Int} {n1 : Nat} (ou : Ok u) (hul : u.length ≤ 100000000) (hV : 0 < V) (hn : (lm V).length = n1 + 1) (hnl : n1 ≤ 90000000) (ht : 0 < (lm V).getD n1 0) (R : List Int × List Int × Int)
    (fin : ∀ q r, Ok q → q.length = u.length → 0 ≤ r → r < V → val u = val q * V + r → Ev (fun k => trammelref01_Div.l0 k x7 u (lm V) q (lm r) (-1)) R) (i : Nat) :
    i ≤ u.length → ∀ (q : List Int) (r : Int), Ok q → q.length = u.length → 0 ≤ r → r < V → (∀ k, k < i → q.getD k 0 = 0) → val (u.drop i) = val (q.drop i) * V + r → Ev (fun k => trammelref01_Div.l0 k x7 u (lm V) q (lm r) ((i : Int) - 1)) R := by
  have oV := lm_ok V
  have vV : val (lm V) = V := lm_val (by omega)
  have lV : V < Bp (n1 + 1) := by have := val_lt oV; rw [vV, hn] at this; exact this
  induction i with
  | zero =>
    intro _ q r oq hlq hr0 hr1 _ inv
    rw [List.drop_zero, List.drop_zero] at inv
    exact fin q r oq hlq hr0 hr1 inv
  | succ i ih =>
    intro hi q r oq hlq hr0 hr1 hz inv
    have INV := Aside0.mk inv
    clear inv
    have hx := ok_getD ou i
    have e1 : ((i + 1 : Nat) : Int) - 1 = (i : Int) := by omega
    rw [e1]
    have hud := val_drop_cons u i (by omega)
    have hqd := val_drop_cons q i (by omega)
    have hqi := hz i (by omega)
    rw [hqi] at hqd
    obtain ⟨x, hx2⟩ : ∃ x, x = u.getD i 0 := ⟨_, rfl⟩
    rw [← hx2] at hx hud
    obtain ⟨r1, hr1e⟩ : ∃ r1, r1 = x + 4294967296 * r := ⟨_, rfl⟩
    have inv2 := rdA INV.out hud hr1e
    have INV2 := Aside0.mk inv2
    have r10 : 0 ≤ r1 := by omega
    have r1B : r1 < V * 4294967296 := by omega
    have r1l : r1 < Bp (n1 + 2) := by rw [Bp_succ]; omega
    have hl1 : (lm r1).length ≤ n1 + 2 := lm_len_le r10 r1l
    have hlr : (lm r).length ≤ n1 + 1 := lm_len_le hr0 (by omega)
    clear inv2
    refine Ev.step (fun k => by rw [trammelref01_Div.l0]) ?_
    refine ev_pos (by omega) (ev_pos (by omega) (ev_pos (by omega) ?_))
    refine Ev.bind (Ev.now _) ?_
    refine ev_pos (by simp only [List.length_cons, List.length_nil]; omega) ?_
    have ol : Ok ([rd u (i : Int)] ++ lm r) := ok_append.mpr ⟨ok_cons.mpr ⟨rd_ok ou _, ok_nil⟩, lm_ok r⟩
    refine Ev.bind (rnorm_f _ (by simp only [List.length_append, List.length_cons, List.length_nil]; omega)) ?_
    have et : trim ([rd u (i : Int)] ++ lm r) = lm r1 := by
      rw [trim_lm ol, List.singleton_append, val_cons, lm_val hr0, rd_getD, ← hx2, ← hr1e]
    rw [et]
    refine Ev.bind (rcmp_f (lm r1) (lm V) (lm_ok _) oV (by omega) (by omega)) ?_
    rw [lm_val r10, vV]
    by_cases hlt : r1 < V
    · refine ev_pos (by unfold cmp; rw [if_pos hlt]; omega) ?_
      rw [w64 (by omega) (by omega)]
      refine ih (by omega) q r1 oq hlq r10 hlt (fun k hk => hz k (by omega)) ?_
      have := INV2.out
      rw [hqd, Int.zero_add]; exact this
    · refine ev_neg (by unfold cmp; rw [if_neg hlt]; split <;> omega) ?_
      have ew : wrap64 (((lm V).length : Int) - 1) = (n1 : Int) := by rw [w64 (by omega) (by omega)]; omega
      rw [ew, hn]
      refine Ev.bind (ev_some (rlimb (lm_ok r1) (n1 + 1))) (Ev.bind (ev_some (rlimb (lm_ok r1) n1)) (Ev.bind (ev_some (rlimb oV n1)) ?_))
      refine ev_neg (by omega) ?_
      have hge := rdiv_guess (lm_ok r1) oV hn hl1 ht (by rw [lm_val r10, vV]; exact r1B)
      rw [lm_val r10, vV] at hge
      rw [guess64 (ok_getD (lm_ok r1) _) (ok_getD (lm_ok r1) _) ht]
      generalize ((lm r1).getD (n1 + 1) 0 * 4294967296 + (lm r1).getD n1 0) / (lm V).getD n1 0 = g at hge ⊢
      have hq0 : 0 ≤ r1 / V := Int.ediv_nonneg r10 (by omega)
      have hq1 : r1 / V < 4294967296 := Int.ediv_lt_of_lt_mul hV (by rw [Int.mul_comm]; exact r1B)
      have hm0 := Int.emod_nonneg r1 (show V ≠ 0 by omega)
      have hm1 := Int.emod_lt_of_pos r1 hV
      have next : Ev (fun k => trammelref01_Div.l0 k x7 u (lm V) (q.set i (r1 / V)) (lm (r1 % V)) ((i : Int) - 1)) R := by
        refine ih (by omega) _ _ (ok_set oq _ hq0 hq1) (by simpa using hlq) hm0 hm1 (fun k hk => by rw [getD_set_ne _ _ _ _ (by omega)]; exact hz k (by omega)) ?_
        rw [drop_set_self q i _ (by omega), INV2.out, Int.add_mul]
        have := Int.mul_ediv_add_emod r1 V
        rw [Int.mul_comm] at this
        omega
      by_cases hg : g ≥ 4294967296
      · exact ev_pos hg (rdiv_j1 hV (by omega) r10 (by omega) (by omega) (by omega) R (by omega) (by omega) next)
      · exact ev_neg hg (rdiv_j1 hV (by omega) r10 (by omega) (by omega) (by omega) R hge (by omega) next)
theorem rdiv_end {a b p A r Q : Int} (h : A = Q * (b * p) + r) (hA : A = a * p) (h0 : 0 ≤ r) (h1 : r < b * p) (hp : 0 < p) (hb : 0 < b) : Q = a / b ∧ r / p = a % b := by
  have h4 := div_eq (hA.symm.trans h) h0 h1
  rw [Int.mul_ediv_mul_of_pos_left _ _ hp] at h4
  refine ⟨h4.1.symm, ?_⟩
  have h5 := Int.mul_ediv_add_emod a b
  rw [h4.1] at h5
  have h6 : r = a % b * p := by
    rw [hA] at h
    generalize a % b = m at h5
    subst h5; grind
  rw [h6]
  exact Int.mul_ediv_cancel _ (by omega)
theorem rdiv_f (a b : List Int) (oa : Ok a) (ob : Ok b) (hla : a.length ≤ 50000000) (hlb : b.length ≤ 50000000) : Ev (fun k => trammelref01_Div.f k a b) (divR a b) := by
  unfold trammelref01_Div.f
  have tb := trim_len b
  have ha0 := val_nonneg oa
  have hb0 := val_nonneg ob
  refine Ev.bind (rnorm_f b (by omega)) ?_
  by_cases h0 : val b = 0
  · refine ev_pos (by rw [trim_nil ob h0]; rfl) (ev_now ?_)
    unfold divR; rw [if_pos h0]
  · have hne : trim b ≠ [] := by intro e; rw [trim_lm ob] at e; exact h0 ((lm_eq_nil hb0).mp e)
    have hl1 : 1 ≤ (trim b).length := by
      rcases Nat.eq_zero_or_pos (trim b).length with h | h
      · exact absurd (List.length_eq_zero_iff.mp h) hne
      · exact h
    unfold divR
    rw [if_neg h0]
    refine ev_neg (by omega) ?_
    by_cases hl : (trim b).length = 1
    · have hb : val b = rd (trim b) 0 := by rw [← trim_val b, len_one hl]; simp [val, rd]
      have hr := rd_ok (trim_ok ob) 0
      refine ev_pos (by omega) (ev_pos (by omega) ?_)
      rw [← hb] at hr ⊢
      rw [u64w (by omega) (by omega)]
      refine Ev.bind (rsmall_f a oa (by omega) (val b) (by omega) hr.2) ?_
      have hm0 : 0 ≤ val a % val b := Int.emod_nonneg _ h0
      have hm1 : val a % val b < val b := Int.emod_lt_of_pos _ (by omega)
      have e : val a % val b % 4294967296 = val a % val b := by omega
      simp only [e]
      have or : Ok [val a % val b] := ok_cons.mpr ⟨⟨hm0, by omega⟩, ok_nil⟩
      refine Ev.bind (rnorm_f _ (by simp)) (ev_now ?_)
      rw [trim_lm or, val_single]
    · refine ev_neg (by omega) ?_
      have hbl := bl_len (trim_ok ob) (Nat.le_refl (trim b).length)
      rw [trim_val] at hbl
      obtain ⟨s, hs⟩ : ∃ s, s + bl (val b).toNat = 32 * (trim b).length := ⟨_, Nat.sub_add_cancel hbl⟩
      obtain ⟨n1, hn1⟩ : ∃ n1, (trim b).length = n1 + 1 := ⟨(trim b).length - 1, by omega⟩
      have hs32 : s < 32 := by
        have h1 := bl_limbs (trim_ok ob) hne (trim_top_pos ob hne)
        have h2 := trim_top_pos ob hne
        rw [trim_val] at h1
        have h3 : 1 ≤ bl (rd (trim b) (((trim b).length - 1 : Nat) : Int)).toNat := by
          rcases Nat.eq_zero_or_pos (bl (rd (trim b) (((trim b).length - 1 : Nat) : Int)).toNat) with h | h
          · rw [bl_eq_zero] at h; omega
          · exact h
        omega
      have ew : wrap64 (wrap64 (32 * ((trim b).length : Int)) - ((bl (val b).toNat : Nat) : Int)) = (s : Int) := by
        rw [w64 (n := 32 * ((trim b).length : Int)) (by omega) (by omega), w64 (by omega) (by omega)]; omega
      refine Ev.bind (rbits_f (trim b) (trim_ok ob) (by omega)) ?_
      rw [trim_val, ew]
      refine Ev.bind (rtwo_f s (by omega)) ?_
      have hp : (0 : Int) < 2 ^ s := Int.pow_pos (by omega)
      have e32 : s / 32 = 0 := by omega
      have t2 := twoL_len s
      rw [e32] at t2
      refine Ev.bind (rmul_f a (twoL s) oa (twoL_ok s) (by omega)) (Ev.bind (rmul_f (trim b) (twoL s) (trim_ok ob) (twoL_ok s) (by omega)) ?_)
      rw [trim_val, twoL_val]
      have hu0 : 0 ≤ val a * 2 ^ s := Int.mul_nonneg ha0 (by omega)
      have hV : 0 < val b * 2 ^ s := Int.mul_pos (by omega) hp
      have hul : (lm (val a * 2 ^ s)).length ≤ 50000001 := by
        have h1 := lm_mul_len oa (twoL_ok s)
        rw [twoL_val] at h1; omega
      have hVn : (lm (val b * 2 ^ s)).length = n1 + 1 := by
        have hbv := bl_mul_two (v := val b) (by omega) s
        have h1 := lm_bl_len (v := val b * 2 ^ s) (by omega) (q := n1 + 1) (by omega)
        have h2 := bl_len (lm_ok (val b * 2 ^ s)) (Nat.le_refl _)
        rw [lm_val (by omega)] at h2
        omega
      have hvt : 0 < (lm (val b * 2 ^ s)).getD n1 0 := by
        have e1 : trim (lm (val b * 2 ^ s)) = lm (val b * 2 ^ s) := trim_of_nrm (lm_ok _) (lm_nrm _)
        have h1 := trim_top_pos (lm_ok (val b * 2 ^ s)) (by rw [e1]; intro e; rw [e] at hVn; simp at hVn)
        rw [e1, hVn, rd_getD] at h1
        exact h1
      refine ev_pos (by omega) (ev_pos (by rw [Int.toNat_natCast]; omega) ?_)
      rw [Int.toNat_natCast, w64 (by omega) (by omega)]
      have fin := rdiv_l0 (x7 := trim b) (u := lm (val a * 2 ^ s)) (V := val b * 2 ^ s) (n1 := n1) (lm_ok _) (by omega) hV hVn (by omega) hvt (lm (val a / val b), lm (val a % val b), 0) ?_ (lm (val a * 2 ^ s)).length (Nat.le_refl _) (List.replicate (lm (val a * 2 ^ s)).length 0) 0 (ok_replicate _) (by simp) (by omega) hV (fun k _ => getD_zeros _ _) (by rw [List.drop_of_length_le (Nat.le_refl _), List.drop_of_length_le (by simp), val_nil]; simp)
      · rw [lm_zero] at fin; exact fin
      · intro q r oq hlq hr0 hr1 inv
        rw [lm_val hu0] at inv
        have hd := rdiv_end inv rfl hr0 hr1 hp (by omega)
        have hlr : (lm r).length ≤ n1 + 1 := by
          refine lm_len_le hr0 ?_
          have := val_lt (lm_ok (val b * 2 ^ s))
          rw [lm_val (by omega), hVn] at this
          omega
        refine Ev.step (fun k => by rw [trammelref01_Div.l0]) ?_
        refine ev_neg (by omega) ?_
        refine Ev.bind (rbits_f (trim b) (trim_ok ob) (by omega)) ?_
        rw [trim_val, ew]
        refine Ev.bind (rShr_f (lm r) (lm_ok r) (by omega) (s : Int) (by omega)) ?_
        refine Ev.bind (rnorm_f q (by omega)) (ev_now ?_)
        unfold shrR
        rw [if_neg (by omega), lm_val hr0, Int.toNat_natCast, hd.2, trim_lm oq, hd.1]
end Go.Proofs.Ytndopanohhdfgaa.PA

