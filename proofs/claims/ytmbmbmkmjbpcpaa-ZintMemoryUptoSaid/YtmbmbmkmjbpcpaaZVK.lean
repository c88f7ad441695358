/- One digit of a quotient, on lists: what the rounds of the subtraction and of the additions keep; no program is named. -/
import Derived.Test.YtmbmbmkmjbpcpaaNatShiftAK
import Derived.Test.YtmbmbmkmjbpcpaaPAx12K
import Derived.Test.YtmbmbmkmjbpcpaaPAx6K
import Derived.Test.YtmbmbmkmjbpcpaaRowkK
import Derived.Test.YtmbmbmkmjbpcpaaPAx0K
namespace Go.Proofs.Ytmbmbmkmjbpcpaa.PA
open Go Go.RowKit Go.Proofs.YtmbmbmkmjbpcpaaW.PrintWords Go.Proofs.YtmbmbmkmjbpcpaaW.PrintLast Go.Proofs.YtmbmbmkmjbpcpaaW.PrintMore
open Go.Proofs.Ytmbmbmkmjbpcpaa.Nums
set_option linter.unusedVariables false

/-! ### one digit of a quotient, on lists -/
/-- i rounds of the subtraction of q * vs from the limbs from j on are done -/
structure DA (j n : Nat) (xs vs : List Int) (q : Int) (i : Nat) (zs : List Int) (cy bw : Int) : Prop where
  len : zs.length = xs.length
  ok : Ok zs
  far : ∀ k, k < j ∨ j + i ≤ k → zs.getD k 0 = xs.getD k 0
  cy0 : 0 ≤ cy
  cy1 : cy < 4294967296
  cyn : n < i → cy = 0
  bw0 : 0 ≤ bw
  bw1 : bw ≤ 1
  eq : val ((zs.drop j).take i) - Bp i * bw = val ((xs.drop j).take i) - (q * val (vs.take i) - Bp i * cy)
theorem drop_set_add (zs : List Int) (j i : Nat) (y : Int) : (zs.set (j + i) y).drop j = (zs.drop j).set i y := by
  rw [List.drop_set, if_neg (by omega), Nat.add_sub_cancel_left]
theorem win_set (zs : List Int) (j i : Nat) (y : Int) (h : j + i < zs.length) : val (((zs.set (j + i) y).drop j).take (i + 1)) = val ((zs.drop j).take i) + Bp i * y := by
  rw [drop_set_add, val_set_take _ _ _ (by simp; omega)]
theorem win_take (xs : List Int) (j i : Nat) : val ((xs.drop j).take (i + 1)) = val ((xs.drop j).take i) + Bp i * xs.getD (j + i) 0 := by
  rw [val_take_any, drop_getD, Nat.add_comm i j]
theorem daA {P S T Bi bw cy q x v m h y b p : Int} (inv : P - Bi * bw = S - (q * T - Bi * cy)) (hb : Bi * y - 4294967296 * Bi * b = Bi * (x - m - bw)) (hc : Bi * m + 4294967296 * Bi * h = Bi * p) (hp : p = cy + q * v) :
    P + Bi * y - 4294967296 * Bi * b = S + Bi * x - (q * (T + Bi * v) - 4294967296 * Bi * h) := by
  subst hp
  have e1 : Bi * (x - m - bw) = Bi * x - Bi * m - Bi * bw := by grind
  have e2 : Bi * (cy + q * v) = Bi * cy + q * (Bi * v) := by grind
  have e3 : q * (T + Bi * v) = q * T + q * (Bi * v) := by grind
  rw [e1] at hb
  rw [e2] at hc
  rw [e3]
  omega
theorem mul_fits {cy q v : Int} (c0 : 0 ≤ cy) (c1 : cy < 4294967296) (q0 : 0 ≤ q) (q1 : q < 4294967296) (v0 : 0 ≤ v) (v1 : v < 4294967296) : 0 ≤ q * v ∧ cy + q * v ≤ 18446744069414584320 := by
  have h1 : q * v ≤ 4294967295 * 4294967295 := Int.mul_le_mul (by omega) (by omega) v0 (by omega)
  have h2 : 0 ≤ q * v := Int.mul_nonneg q0 v0
  omega
theorem DA.start {j n : Nat} {xs vs : List Int} {q : Int} (hx : Ok xs) : DA j n xs vs q 0 xs 0 0 :=
  ⟨rfl, hx, fun _ _ => rfl, by omega, by omega, by omega, by omega, by omega, by simp [val_nil]⟩
theorem DA.step {j n : Nat} {xs vs : List Int} {q : Int} {i : Nat} {zs : List Int} {cy bw : Int} (h : DA j n xs vs q i zs cy bw) (hi : i ≤ n) (hl : j + n + 1 ≤ xs.length) (hn : vs.length = n) (hv : Ok vs) (q0 : 0 ≤ q) (q1 : q < 4294967296)
    {p d : Int} (hp : p = cy + q * vs.getD i 0) (hd : d = (zs.getD (j + i) 0 - p % 4294967296 - bw) % 18446744073709551616) :
    DA j n xs vs q (i + 1) (zs.set (j + i) (d % 4294967296)) (p / 4294967296) (d / 9223372036854775808) := by
  obtain ⟨len, ok, far, cy0, cy1, cyn, bw0, bw1, eq⟩ := h
  have EQ := Aside0.mk eq
  have hx := ok_getD ok (j + i)
  have hvi := ok_getD hv i
  have hm := mul_fits cy0 cy1 q0 q1 hvi.1 hvi.2
  have HP := Aside0.mk hp
  have hp0 : 0 ≤ p ∧ p ≤ 18446744069414584320 := by rw [hp]; omega
  have hpn : n < i + 1 → p / 4294967296 = 0 := by
    intro h2
    have : vs.getD i 0 = 0 := getD_ge _ _ (by omega)
    rw [hp, this, Int.mul_zero]; omega
  have hf := far (j + i) (by omega)
  have FAR := Aside0.mk far
  clear eq hp hm far
  have hd0 : 0 ≤ d % 4294967296 ∧ d % 4294967296 < 4294967296 := by omega
  have hd1 : 0 ≤ d / 9223372036854775808 ∧ d / 9223372036854775808 ≤ 1 := by omega
  refine ⟨by simpa using len, ok_set ok _ hd0.1 hd0.2, ?_, by omega, by omega, hpn, hd1.1, hd1.2, ?_⟩
  · intro k hk
    rw [getD_set_ne _ _ _ _ (by omega)]
    exact FAR.out k (by omega)
  · rw [win_set zs j i _ (by omega), win_take, val_take_any, Bp_succ, ← hf]
    refine daA EQ.out ?_ (carry (Bp i) p) HP.out
    rw [hd]
    exact borrow (by omega) (by omega)
/-- i rounds of the addition of vs to the limbs from j on are done -/
structure DB (j : Nat) (xs vs : List Int) (i : Nat) (zs : List Int) (c : Int) : Prop where
  len : zs.length = xs.length
  ok : Ok zs
  far : ∀ k, k < j ∨ j + i ≤ k → zs.getD k 0 = xs.getD k 0
  c0 : 0 ≤ c
  c1 : c ≤ 1
  eq : val ((zs.drop j).take i) + Bp i * c = val ((xs.drop j).take i) + val (vs.take i)
theorem DB.start {j : Nat} {xs vs : List Int} (hx : Ok xs) : DB j xs vs 0 xs 0 := ⟨rfl, hx, fun _ _ => rfl, by omega, by omega, by simp [val_nil]⟩
theorem DB.step {j n : Nat} {xs vs : List Int} {i : Nat} {zs : List Int} {c : Int} (h : DB j xs vs i zs c) (hi : i ≤ n) (hl : j + n + 1 ≤ xs.length) (hv : Ok vs) {s : Int} (hs : s = c + zs.getD (j + i) 0 + vs.getD i 0) :
    DB j xs vs (i + 1) (zs.set (j + i) (s % 4294967296)) (s / 4294967296) := by
  obtain ⟨len, ok, far, c0, c1, eq⟩ := h
  have EQ := Aside0.mk eq
  have hx := ok_getD ok (j + i)
  have hvi := ok_getD hv i
  have hf := far (j + i) (by omega)
  have FAR := Aside0.mk far
  clear eq far
  refine ⟨by simpa using len, ok_set ok _ (by omega) (by omega), ?_, by omega, by omega, ?_⟩
  · intro k hk
    rw [getD_set_ne _ _ _ _ (by omega)]
    exact FAR.out k (by omega)
  · rw [win_set zs j i _ (by omega), win_take, val_take_any, Bp_succ, ← hf]
    exact addB EQ.out (carry (Bp i) s) hs
/-- between two additions -/
structure DC (j n : Nat) (xs vs : List Int) (zs : List Int) (q bw : Int) : Prop where
  len : zs.length = xs.length
  ok : Ok zs
  far : ∀ k, k < j ∨ j + (n + 1) ≤ k → zs.getD k 0 = xs.getD k 0
  bw0 : 0 ≤ bw
  bw1 : bw ≤ 1
  q0 : 0 ≤ q
  q1 : q < 4294967296
  eq : val ((zs.drop j).take (n + 1)) - Bp (n + 1) * bw = val ((xs.drop j).take (n + 1)) - q * val vs
  lt : val ((xs.drop j).take (n + 1)) - q * val vs < val vs
theorem DC.start {j n : Nat} {xs vs : List Int} {q : Int} {zs : List Int} {cy bw : Int} (h : DA j n xs vs q (n + 1) zs cy bw) (hn : vs.length = n) (q0 : 0 ≤ q) (q1 : q < 4294967296) (lt : val ((xs.drop j).take (n + 1)) - q * val vs < val vs) : DC j n xs vs zs q bw := by
  obtain ⟨len, ok, far, cy0, cy1, cyn, bw0, bw1, eq⟩ := h
  refine ⟨len, ok, far, bw0, bw1, q0, q1, ?_, lt⟩
  rw [cyn (by omega), take_len_any vs _ (by omega)] at eq
  rw [eq]; simp
theorem DC.neg {j n : Nat} {xs vs : List Int} {zs : List Int} {q bw : Int} (h : DC j n xs vs zs q bw) (hx : Ok xs) (hv : Ok vs) (hb : 0 < bw) : 1 ≤ q ∧ val ((xs.drop j).take (n + 1)) - q * val vs < 0 := by
  have hb1 : bw = 1 := by have := h.bw1; omega
  have h1 := take_lt (ok_drop h.ok j) (n + 1)
  have h2 := h.eq
  rw [hb1, Int.mul_one] at h2
  have h3 : val ((xs.drop j).take (n + 1)) - q * val vs < 0 := by omega
  refine ⟨?_, h3⟩
  have h4 := h.q0
  by_cases hq : q = 0
  · rw [hq, Int.zero_mul] at h3
    have := val_nonneg (ok_take (ok_drop hx j) (n + 1))
    omega
  · omega
theorem DC.step {j n : Nat} {xs vs : List Int} {zs ys : List Int} {q bw c : Int} (h : DC j n xs vs zs q bw) (hx : Ok xs) (hv : Ok vs) (hn : vs.length = n) (hb : 0 < bw) (g : DB j zs vs (n + 1) ys c) : DC j n xs vs ys (q - 1) (bw - c) := by
  obtain ⟨hq, hneg⟩ := h.neg hx hv hb
  obtain ⟨len, ok, far, bw0, bw1, q0, q1, eq, lt⟩ := h
  obtain ⟨len', ok', far', c0, c1, eq'⟩ := g
  have e1 : (q - 1) * val vs = q * val vs - val vs := by grind
  refine ⟨by omega, ok', fun k hk => (far' k hk).trans (far k hk), by omega, by omega, by omega, by omega, ?_, by rw [e1]; omega⟩
  rw [take_len_any vs _ (by omega)] at eq'
  rw [e1, Int.mul_sub]
  omega
theorem DC.done {j n : Nat} {xs vs : List Int} {zs : List Int} {q bw : Int} (h : DC j n xs vs zs q bw) (hb : ¬ 0 < bw) : val ((zs.drop j).take (n + 1)) = val ((xs.drop j).take (n + 1)) - q * val vs := by
  have h1 := h.bw0
  have h2 : bw = 0 := by omega
  have := h.eq
  rw [h2, Int.mul_zero, Int.sub_zero] at this
  exact this
theorem guess_val {j n : Nat} {xs vs : List Int} {a b c : Int} (hx : Ok xs) (hv : Ok vs) (hn : vs.length = n + 1) (ha : xs.getD (j + (n + 1)) 0 = a) (hb : xs.getD (j + n) 0 = b) (hc : vs.getD n 0 = c) (c0 : 0 < c)
    (hlt : val ((xs.drop j).take (n + 2)) < val vs * 4294967296) : 0 ≤ mn ((a * 4294967296 + b) / c) 4294967295 ∧ mn ((a * 4294967296 + b) / c) 4294967295 < 4294967296 ∧ val ((xs.drop j).take (n + 2)) - mn ((a * 4294967296 + b) / c) 4294967295 * val vs < val vs := by
  have ha0 := ok_getD hx (j + (n + 1))
  have hb0 := ok_getD hx (j + n)
  have hc0 := ok_getD hv n
  rw [ha] at ha0
  rw [hb] at hb0
  rw [hc] at hc0
  have hU : val ((xs.drop j).take (n + 2)) = (a * 4294967296 + b) * Bp n + val ((xs.drop j).take n) := by
    rw [win_take, win_take, ha, hb, Bp_succ]; grind
  have hV : val vs = c * Bp n + val (vs.take n) := by
    have h1 := val_take_any vs n
    rw [hc, take_len_any vs (n + 1) (by omega)] at h1
    rw [h1]; grind
  have hul := take_lt (ok_drop hx j) n
  have hvl := val_nonneg (ok_take hv n)
  have hU0 := val_nonneg (ok_take (ok_drop hx j) (n + 2))
  have hE := Bp_pos n
  have hVp : 0 < val vs := by
    have : 0 < c * Bp n := Int.mul_pos c0 hE
    omega
  generalize hUU : val ((xs.drop j).take (n + 2)) = U at *
  generalize hVV : val vs = V at *
  have hd := div_mul_le U V hVp
  have hq0 : 0 ≤ U / V := Int.ediv_nonneg hU0 (by omega)
  have hq1 : U / V < 4294967296 := Int.ediv_lt_of_lt_mul hVp (by rw [Int.mul_comm]; exact hlt)
  have hg := guess_ge hE c0 hvl hV hU hul (U / V) hq0 hd.1
  have ht0 : 0 ≤ (a * 4294967296 + b) / c := Int.ediv_nonneg (by omega) (by omega)
  generalize (a * 4294967296 + b) / c = t at hg ht0 ⊢
  generalize U / V = r at hd hq0 hq1 hg
  have hm : r ≤ mn t 4294967295 ∧ 0 ≤ mn t 4294967295 ∧ mn t 4294967295 < 4294967296 := by unfold mn; split <;> omega
  refine ⟨hm.2.1, hm.2.2, ?_⟩
  generalize mn t 4294967295 = q at hm
  have h1 : (r + 1) * V ≤ (q + 1) * V := Int.mul_le_mul_of_nonneg_right (by omega) (by omega)
  have h2 : (q + 1) * V = q * V + V := by grind
  omega

/-! ### the quotient's digits from the top, on lists -/
structure DD (m n : Nat) (A V : Int) (j : Nat) (us qs : List Int) : Prop where
  lenu : us.length = m + n
  oku : Ok us
  lenq : qs.length = m
  okq : Ok qs
  jm : j ≤ m
  low : ∀ k, k < j → qs.getD k 0 = 0
  eq : val qs * V + val us = A
  lt : val (us.drop j) < V
theorem getD_in (l : List Int) (n : Nat) (h : n < l.length) : l.getD n 0 = l[n] := by simp [List.getD, h]
theorem drop_eq_of {a b : List Int} (hl : a.length = b.length) {k : Nat} (h : ∀ i, k ≤ i → a.getD i 0 = b.getD i 0) : a.drop k = b.drop k := by
  apply List.ext_getElem
  · simp [hl]
  · intro i h1 h2
    simp only [List.length_drop] at h1 h2
    have := h (k + i) (by omega)
    simp only [List.getElem_drop]
    rw [getD_in _ _ (by omega), getD_in _ _ (by omega)] at this
    exact this
theorem take_eq_of {a b : List Int} (hl : a.length = b.length) {k : Nat} (h : ∀ i, i < k → a.getD i 0 = b.getD i 0) : a.take k = b.take k := by
  apply List.ext_getElem
  · simp [hl]
  · intro i h1 h2
    simp only [List.length_take] at h1 h2
    have := h i (by omega)
    simp only [List.getElem_take]
    rw [getD_in _ _ (by omega), getD_in _ _ (by omega)] at this
    exact this
theorem DD.window {m n : Nat} {A : Int} {vs : List Int} {j : Nat} {us qs : List Int} (h : DD m n A (val vs) (j + 1) us qs) : val ((us.drop j).take (n + 1)) < val vs * 4294967296 := by
  have h1 := val_split (us.drop j) (n + 1)
  have h2 := val_nonneg (ok_drop (ok_drop h.oku j) (n + 1))
  have h3 := val_drop_any us j
  have h4 := ok_getD h.oku j
  have h5 := h.lt
  have h6 := Bp_pos (n + 1)
  have h7 : 0 ≤ Bp (n + 1) * val ((us.drop j).drop (n + 1)) := Int.mul_nonneg (by omega) h2
  omega
theorem dd_zero {E X Y V : Int} (h : Y + E * X < V) (hV : V ≤ E) (hE : 0 < E) (hX : 0 ≤ X) (hY : 0 ≤ Y) : X = 0 := by
  by_cases h0 : X = 0
  · exact h0
  · have : E * 1 ≤ E * X := Int.mul_le_mul_of_nonneg_left (by omega) (by omega)
    omega
theorem ddA {Q V U A q B S W W' : Int} (eq : Q * V + U = A) (hU : U = S + B * W) (hW : W' = W - q * V) : (Q + B * (q - 0)) * V + (S + B * W') = A := by
  subst hW; rw [hU] at eq; grind
theorem DD.step {m n : Nat} {A : Int} {vs : List Int} {j : Nat} {us qs zs : List Int} {q : Int} (h : DD m n A (val vs) (j + 1) us qs) (hv : Ok vs) (hn : vs.length = n) (d : DC j n us vs zs q 0) : DD m n A (val vs) j zs (qs.set j q) := by
  obtain ⟨lenu, oku, lenq, okq, jm, low, eq, lt⟩ := h
  have EQ := Aside0.mk eq
  clear eq
  have hd := d.done (by omega)
  obtain ⟨dlen, dok, far, bw0, bw1, q0, q1, deq, dlt⟩ := d
  clear deq
  have hVE : val vs < Bp n := by rw [← hn]; exact val_lt hv
  have hz : val (us.drop (j + (n + 1))) = 0 := by
    have h1 := val_split (us.drop (j + 1)) n
    rw [List.drop_drop] at h1
    have e : j + 1 + n = j + (n + 1) := by omega
    rw [e] at h1
    rw [h1] at lt
    exact dd_zero lt (by omega) (Bp_pos n) (val_nonneg (ok_drop oku _)) (val_nonneg (ok_take (ok_drop oku _) _))
  have hdz : zs.drop (j + (n + 1)) = us.drop (j + (n + 1)) := drop_eq_of dlen (fun i hi => far i (.inr hi))
  have htz : zs.take j = us.take j := take_eq_of dlen (fun i hi => far i (.inl hi))
  have hwz : val (zs.drop j) = val ((zs.drop j).take (n + 1)) := by
    have h1 := val_split (zs.drop j) (n + 1)
    rw [List.drop_drop, hdz, hz, Int.mul_zero, Int.add_zero] at h1
    exact h1
  have hwu : val (us.drop j) = val ((us.drop j).take (n + 1)) := by
    have h1 := val_split (us.drop j) (n + 1)
    rw [List.drop_drop, hz, Int.mul_zero, Int.add_zero] at h1
    exact h1
  refine ⟨by omega, dok, by simpa using lenq, ok_set okq _ q0 q1, by omega, ?_, ?_, ?_⟩
  · intro k hk
    rw [getD_set_ne _ _ _ _ (by omega)]
    exact low k (by omega)
  · have hlow := low j (by omega)
    rw [val_set_mid qs j q (by omega), hlow, val_split zs j, htz]
    exact ddA EQ.out (val_split us j) (by rw [hwz, hwu]; exact hd)
  · rw [hwz, hd]; exact dlt
theorem DD.start {m n : Nat} {A : Int} {vs us : List Int} (lenu : us.length = m + n) (oku : Ok us) (hA : val us = A) (lt : val (us.drop m) < val vs) : DD m n A (val vs) m us (List.replicate m 0) :=
  ⟨lenu, oku, by simp, ok_replicate _, Nat.le_refl _, fun k _ => getD_zeros _ _, by rw [val_zeros, hA]; simp, lt⟩
theorem DD.done {m n : Nat} {a b p : Int} {us qs : List Int} {V : Int} (h : DD m n (a * p) V 0 us qs) (hV : V = b * p) (hp : 0 < p) (hb : 0 < b) : val qs = a / b ∧ val us / p = a % b := by
  have h1 := h.eq
  have h2 := h.lt
  rw [List.drop_zero] at h2
  have h3 := val_nonneg h.oku
  rw [hV] at h1 h2
  have e1 : a * p = val qs * (b * p) + val us := h1.symm
  have hbp : 0 < b * p := Int.mul_pos hb hp
  have h4 := div_eq e1 h3 h2
  rw [Int.mul_ediv_mul_of_pos_left _ _ hp] at h4
  refine ⟨h4.1.symm, ?_⟩
  have h5 := Int.mul_ediv_add_emod a b
  rw [h4.1] at h5
  have h6 : val us = a % b * p := by
    generalize a % b = r at h5
    subst h5; grind
  rw [h6]
  exact Int.mul_ediv_cancel _ (by omega)
/-- the long road of a quotient -/
def LongCond (a b : List Int) : Prop := (∀ x ∈ a, 0 ≤ x ∧ x < 4294967296) ∧ (∀ x ∈ b, 0 ≤ x ∧ x < 4294967296) ∧ a.length ≤ 35184372088000 ∧ b.length ≤ 35184372088000 ∧ 2 ≤ (trim b).length ∧ val b ≤ val a
instance (a b : List Int) : Decidable (LongCond a b) := by unfold LongCond; infer_instance
structure LongSet (a b : List Int) (s : Nat) (vs us : List Int) (n1 m : Nat) : Prop where
  lb : (trim b).length = n1 + 1
  la : (trim a).length + 1 = m + (n1 + 1)
  m1 : 1 ≤ m
  s32 : s < 32
  top : 0 < (trim b).getD n1 0 ∧ (trim b).getD n1 0 < 4294967296
  lz : bits_LeadingZeros32.f ((trim b).getD n1 0) = some (s : Int)
  vsd : vs = lm (val b * 2 ^ s)
  usd : us = (lm (val a * 2 ^ s) ++ [0, 0]).take (m + (n1 + 1))
  ulen : m + (n1 + 1) ≤ (lm (val a * 2 ^ s) ++ [0, 0]).length
  uup : (lm (val a * 2 ^ s)).length ≤ (trim a).length + 1
  vlen : vs.length = n1 + 1
  vok : Ok vs
  vtop : 0 < vs.getD n1 0
  start : DD m (n1 + 1) (val a * 2 ^ s) (val vs) m us (List.replicate m 0)
theorem long_set {a b : List Int} (h : LongCond a b) : ∃ s vs us n1 m, LongSet a b s vs us n1 m := by
  obtain ⟨oa, ob, hla, hlb, h2, hle⟩ := h
  have oa : Ok a := oa
  have ob : Ok b := ob
  have hta := trim_ok oa
  have htb := trim_ok ob
  have hll := trim_len_le ob oa hle
  obtain ⟨n1, hn1⟩ : ∃ n1, (trim b).length = n1 + 1 := ⟨(trim b).length - 1, by omega⟩
  obtain ⟨m, hm⟩ : ∃ m, (trim a).length + 1 = m + (n1 + 1) := ⟨(trim a).length - n1, by omega⟩
  have hne : trim b ≠ [] := by intro e; rw [e] at hn1; simp at hn1
  have htop := trim_top_pos ob hne
  have hbl := bl_limbs htb hne htop
  have e0 : (trim b).length - 1 = n1 := by omega
  rw [e0] at htop hbl
  rw [rd_getD] at htop hbl
  have hto := ok_getD htb n1
  have hb1 : 1 ≤ bl ((trim b).getD n1 0).toNat := by
    have : bl ((trim b).getD n1 0).toNat ≠ 0 := by rw [Ne, bl_eq_zero]; omega
    omega
  have hb32 := bl32 hto.2
  generalize hc : (trim b).getD n1 0 = c at *
  obtain ⟨s, hs⟩ : ∃ s, s + bl c.toNat = 32 := ⟨32 - bl c.toNat, by omega⟩
  have hvb : 0 < val b := by
    have h1 := nrm_top htb (trim_nrm b) hne
    have h2 := Bp_pos ((trim b).length - 1)
    rw [trim_val] at h1; omega
  have hva : 0 < val a := by omega
  rw [trim_val] at hbl
  have hlz : bits_LeadingZeros32.f c = some (s : Int) := by
    unfold bits_LeadingZeros32.f bits_Len32.f
    rw [if_pos (by omega), bitLen_bl (by omega)]
    simp only [Option.bind_some]
    rw [w64 (by omega) (by omega)]
    congr 1; omega
  have hp : (0 : Int) < 2 ^ s := Int.pow_pos (by omega)
  have hbv := bl_mul_two hvb s
  have hv0 : 0 ≤ val b * 2 ^ s := Int.mul_nonneg (by omega) (by omega)
  have hu0 : 0 ≤ val a * 2 ^ s := Int.mul_nonneg (by omega) (by omega)
  have hvl : (lm (val b * 2 ^ s)).length = n1 + 1 := by
    have h1 := lm_bl_len hv0 (q := n1 + 1) (by omega)
    have h2 := bl_len (lm_ok (val b * 2 ^ s)) (Nat.le_refl _)
    rw [lm_val hv0] at h2
    omega
  have hp32 : (2 : Int) ^ s < 4294967296 := by
    obtain ⟨p, c', e, h1, h2, h3, h4⟩ := two_pow_small (show s < 32 by omega)
    rw [e]; omega
  have hua : val a * 2 ^ s < Bp ((trim a).length + 1) := by
    have h1 := val_lt hta
    rw [trim_val] at h1
    rw [Bp_succ]
    have h3 : val a * 2 ^ s ≤ val a * 4294967296 := Int.mul_le_mul_of_nonneg_left (by omega) (by omega)
    omega
  have hul : (lm (val a * 2 ^ s)).length ≤ (trim a).length + 1 := lm_len_le hu0 hua
  have hul2 : (trim a).length ≤ (lm (val a * 2 ^ s)).length := by
    have h1 := trim_len_le oa (lm_ok (val a * 2 ^ s)) (by rw [lm_val hu0]; exact le_mul_right (by omega) (by omega))
    have h2 := trim_len (lm (val a * 2 ^ s))
    omega
  have hvt : 0 < (lm (val b * 2 ^ s)).getD n1 0 := by
    have e1 : trim (lm (val b * 2 ^ s)) = lm (val b * 2 ^ s) := trim_of_nrm (lm_ok _) (lm_nrm _)
    have h1 := trim_top_pos (lm_ok (val b * 2 ^ s)) (by rw [e1]; intro e; rw [e] at hvl; simp at hvl)
    rw [e1, hvl, rd_getD] at h1
    exact h1
  have huv : val ((lm (val a * 2 ^ s) ++ [0, 0]).take (m + (n1 + 1))) = val a * 2 ^ s := by
    have h1 : val (lm (val a * 2 ^ s) ++ [0, 0]) = val a * 2 ^ s := by rw [val_append, lm_val hu0]; simp [val]
    have h2 := val_split (lm (val a * 2 ^ s) ++ [0, 0]) (m + (n1 + 1))
    have h3 : val ((lm (val a * 2 ^ s) ++ [0, 0]).drop (m + (n1 + 1))) = 0 := by
      rw [List.drop_append, List.drop_of_length_le (by omega), List.nil_append]
      rcases (show m + (n1 + 1) - (lm (val a * 2 ^ s)).length = 0 ∨ m + (n1 + 1) - (lm (val a * 2 ^ s)).length = 1 by omega) with e | e <;> rw [e] <;> simp [val]
    rw [h3, h1, Int.mul_zero, Int.add_zero] at h2; exact h2.symm
  refine ⟨s, _, _, n1, m, ⟨hn1, hm, by omega, by omega, by rw [hc]; exact ⟨htop, hto.2⟩, by rw [hc]; exact hlz, rfl, rfl, by simp; omega, hul, hvl, lm_ok _, hvt, ?_⟩⟩
  refine DD.start (by simp; omega) (ok_take (ok_append.mpr ⟨lm_ok _, ok_cons.mpr ⟨by omega, ok_cons.mpr ⟨by omega, ok_nil⟩⟩⟩) _) huv ?_
  rw [lm_val hv0, val_drop_div (ok_take (ok_append.mpr ⟨lm_ok _, ok_cons.mpr ⟨by omega, ok_cons.mpr ⟨by omega, ok_nil⟩⟩⟩) _), huv]
  apply Int.ediv_lt_of_lt_mul (Bp_pos m)
  have h1 := val_lt hta
  rw [trim_val] at h1
  have h2 := nrm_top htb (trim_nrm b) hne
  rw [trim_val, e0] at h2
  have e3 : (trim a).length = n1 + m := by omega
  rw [e3, Bp_add] at h1
  have h3 : val a * 2 ^ s < Bp n1 * Bp m * 2 ^ s := Int.mul_lt_mul_of_pos_right h1 hp
  have h4 : Bp n1 * Bp m * 2 ^ s = Bp n1 * (2 ^ s * Bp m) := by grind
  have h5 : Bp n1 * (2 ^ s * Bp m) ≤ val b * (2 ^ s * Bp m) := Int.mul_le_mul_of_nonneg_right h2 (Int.mul_nonneg (by omega) (by have := Bp_pos m; omega))
  have h6 : val b * 2 ^ s * Bp m = val b * (2 ^ s * Bp m) := by grind
  omega
end Go.Proofs.Ytmbmbmkmjbpcpaa.PA


/- The contract of one digit of a quotient (nat.digit): on a window of a row of the caller's own; for rows of at most 70368744177664 words, the divisor's top word not 0, the window below the divisor times 2^32. -/
namespace Go.Proofs.Ytmbmbmkmjbpcpaa.PA
open Go Go.Proofs.Ytmbmbmkmjbpcpaa.Nums Go.RowKit Go.Proofs.YtmbmbmkmjbpcpaaW.PrintWords Go.Proofs.YtmbmbmkmjbpcpaaW.PrintLast Go.Proofs.YtmbmbmkmjbpcpaaW.PrintMore
theorem min2_mn (k k' : IntKind) (x y : Int) : Builtin.min2 (.int k x) (.int k' y) = pure (.int k (mn x y)) := by rw [min2_int]; rfl
attribute [local go_sem] min2_mn min_two
set_option linter.unusedVariables false
set_option linter.unusedSimpArgs false
theorem digit_prep {n n1 m : Nat} (hn1 : n = n1 + 1) (hm : m = n + 1) (hL : m ≤ 70368744177664) :
    (0 ≤ (n : Int)) = True ∧ ((n : Int) < (m : Int)) = True ∧ wrap64 ((n : Int) - 1) = (n1 : Int) ∧ IntKind.i64.wrap ((n : Int) - 1) = (n1 : Int) ∧ wrap64 ((n : Int) + 1) = (m : Int) ∧ IntKind.i64.wrap ((n : Int) + 1) = (m : Int) ∧ (0 ≤ (n1 : Int)) = True ∧ ((n1 : Int) < (m : Int)) = True ∧ ((n1 : Int) < (n : Int)) = True := by
  have h1 : wrap64 ((n : Int) - 1) = (n1 : Int) := by rw [w64 (by omega) (by omega)]; omega
  have h2 : wrap64 ((n : Int) + 1) = (m : Int) := by rw [w64 (by omega) (by omega)]; omega
  refine ⟨eq_true (by omega), eq_true (by omega), h1, (i64_w _).trans h1, h2, (i64_w _).trans h2, eq_true (by omega), ?_, ?_⟩
  · clear h1 h2; exact eq_true (by omega)
  · clear h1 h2; exact eq_true (by omega)
theorem guess_machine {a b c : Int} (ga : 0 ≤ a ∧ a < 4294967296) (gb : 0 ≤ b ∧ b < 4294967296) (gc : 0 < c ∧ c < 4294967296) :
    mn (IntKind.u64.wrap ((Go.bits .or .u64 (IntKind.u64.wrap (IntKind.u64.wrap a * 4294967296)) (IntKind.u64.wrap b)).tdiv (IntKind.u64.wrap c))) 4294967295 = mn ((a * 4294967296 + b) / c) 4294967295 := by
  have h1 : 0 ≤ (a * 4294967296 + b) / c := Int.ediv_nonneg (by omega) (by omega)
  have h2 : (a * 4294967296 + b) / c ≤ a * 4294967296 + b := Int.ediv_le_self _ (by omega)
  rw [u64w (n := a) (by omega) (by omega), u64w (n := a * 4294967296) (by omega) (by omega), u64w (n := b) (by omega) (by omega), u64w (n := c) (by omega) (by omega), or_hi ga.1 ga.2 gb.1 gb.2, Int.tdiv_eq_ediv_of_nonneg (by omega), u64w h1 (by omega)]
theorem digit_guess {j n n1 : Nat} {xs vs : List Int} (hn1 : n = n1 + 1) (hx : Ok xs) (hv : Ok vs) (hl : vs.length = n) (ht : 0 < vs.getD n1 0) (hlt : val ((xs.drop j).take (n + 1)) < val vs * 4294967296) :
    ∃ q, mn (IntKind.u64.wrap ((Go.bits .or .u64 (IntKind.u64.wrap (IntKind.u64.wrap (xs.getD (j + n) 0) * 4294967296)) (IntKind.u64.wrap (xs.getD (j + n1) 0))).tdiv (IntKind.u64.wrap (vs.getD n1 0)))) 4294967295 = q ∧
      0 ≤ q ∧ q < 4294967296 ∧ val ((xs.drop j).take (n + 1)) - q * val vs < val vs := by
  subst hn1
  refine ⟨_, rfl, ?_⟩
  rw [guess_machine (ok_getD hx _) (ok_getD hx _) ⟨ht, (ok_getD hv _).2⟩]
  exact guess_val hx hv hl rfl rfl rfl ht hlt
theorem u64_ne {c : Int} (h0 : 0 < c) (h1 : c < 4294967296) : ¬ (IntKind.u64.wrap c = 0) := by rw [u64w (by omega) (by omega)]; omega
theorem round_facts {i n m : Nat} (hi : i < m) (hm : m ≤ 70368744177664) : (0 ≤ (i : Int)) = True ∧ ((i : Int) < (m : Int)) = True ∧ wrap64 ((i : Int) + 1) = ((i + 1 : Nat) : Int) ∧ IntKind.i64.wrap ((i : Int) + 1) = ((i + 1 : Nat) : Int) := by
  have h : wrap64 ((i : Int) + 1) = ((i + 1 : Nat) : Int) := by rw [w64 (by omega) (by omega)]; omega
  exact ⟨eq_true (by omega), eq_true (by omega), h, (i64_w _).trans h⟩
theorem da_p {q cy y : Int} (c0 : 0 ≤ cy) (c1 : cy < 4294967296) (q0 : 0 ≤ q) (q1 : q < 4294967296) (y0 : 0 ≤ y) (y1 : y < 4294967296) : IntKind.u64.wrap (cy + IntKind.u64.wrap (q * IntKind.u64.wrap y)) = cy + q * y := by
  have h := mul_fits c0 c1 q0 q1 y0 y1
  rw [u64w (n := y) y0 (by omega), u64w (n := q * y) h.1 (by omega), u64w (by omega) (by omega)]
theorem da_d {x p bw : Int} (x0 : 0 ≤ x) (x1 : x < 4294967296) : IntKind.u64.wrap (IntKind.u64.wrap (IntKind.u64.wrap x - p % 4294967296) - bw) = (x - p % 4294967296 - bw) % 18446744073709551616 := by
  rw [u64w (n := x) x0 (by omega), u64_def, u64_def, Int.emod_sub_emod]
theorem gt_true {b : Int} (h : 0 < b) : (b > 0) = True := eq_true h
theorem gt_false {b : Int} (h : ¬ 0 < b) : (b > 0) = False := eq_false h
theorem db_s {c x y : Int} (c0 : 0 ≤ c) (c1 : c ≤ 1) (x0 : 0 ≤ x) (x1 : x < 4294967296) (y0 : 0 ≤ y) (y1 : y < 4294967296) : IntKind.u64.wrap (IntKind.u64.wrap (c + IntKind.u64.wrap x) + IntKind.u64.wrap y) = c + x + y := by
  rw [u64w (n := x) x0 (by omega), u64w (n := c + x) (by omega) (by omega), u64w (n := y) y0 (by omega), u64w (by omega) (by omega)]
theorem db_s1 {c x : Int} (c0 : 0 ≤ c) (c1 : c ≤ 1) (x0 : 0 ≤ x) (x1 : x < 4294967296) : IntKind.u64.wrap (c + IntKind.u64.wrap x) = c + x := by
  rw [u64w (n := x) x0 (by omega), u64w (by omega) (by omega)]
theorem lt_true {i n : Nat} (h : i < n) : ((i : Int) < (n : Int)) = True := eq_true (by omega)
theorem lt_false {i n : Nat} (h : ¬ i < n) : ((i : Int) < (n : Int)) = False := eq_false (by omega)
set_option maxHeartbeats 8000000 in
set_option maxRecDepth 100000 in
theorem digit_calls (g gv j n n1 m L cap c' cv base baseV B : Nat) (ok : Nat → Prop) (hok : ∀ k, ok k → B ≤ k) (xs vs : List Int) (w : World)
    (hR : Kd.R (Kd.int .u32) 68 w base ok (.slice (some ⟨g, 0, none⟩) L cap) xs)
    (hV : Kd.R (Kd.int .u32) 68 w baseV (fun k => k < B) (.slice (some ⟨gv, 0, none⟩) n cv) vs)
    (hn1 : n = n1 + 1) (hm : m = n + 1) (hj : j + m ≤ L) (hx : Ok xs) (hv : Ok vs) (hL : L ≤ 70368744177664)
    (ht : 0 < vs.getD n1 0) (hlt : val ((xs.drop j).take (n + 1)) < val vs * 4294967296) :
    Calls Try.prog 108 #[.slice (some ⟨g, j, none⟩) m c', .slice (some ⟨gv, 0, none⟩) n cv] w fun e w' => ∃ q zs, e = .returned (.int .u32 q) ∧ DC j n xs vs zs q 0 ∧ Kd.R (Kd.int .u32) 68 w' base ok (.slice (some ⟨g, 0, none⟩) L cap) zs ∧ w.grownBy w' (some g) := by
  have hvl : vs.length = n := (Kd.R_reads' hV).1.symm
  have hxl : xs.length = L := (Kd.R_reads' hR).1.symm
  have hu1 := (cell_at hR (j + n) (by omega)).1
  have hu2 := (cell_at hR (j + n1) (by omega)).1
  have hv1 := (cell_at hV n1 (by omega)).1
  obtain ⟨q, hq, q0, qq1, qlt⟩ := digit_guess hn1 hx hv hvl ht hlt
  have c1 := u64_ne ht (ok_getD hv _).2
  have c0b0 : ((IntKind.u64.wrap (vs.getD n1 0)) == 0) = false := beq_eq_false_iff_ne.mpr c1
  have c0b1 : ((IntKind.u64.wrap (vs.getD n1 0)) != 0) = true := bne_iff_ne.mpr c1
  obtain ⟨p1, q1, hji, hjw, hm1, hm1w, p2, q2, q3⟩ := digit_prep hn1 hm (by omega)
  generalize xs.getD (j + n) 0 = a at hu1 hq
  generalize xs.getD (j + n1) 0 = b at hu2 hq
  generalize vs.getD n1 0 = c at hv1 hq c1 c0b0 c0b1
  have HR := Aside0.mk hR
  have HV := Aside0.mk hV
  have HM := Aside0.mk hm
  have HN := Aside0.mk hn1
  have HJ := Aside0.mk hj
  have QLT := Aside0.mk qlt
  have HVL := Aside0.mk hvl
  have HXL := Aside0.mk hxl
  have HL := Aside0.mk hL
  have HQ := Aside0.mk hq
  clear hR hV hm hn1 hj qlt hvl hxl hL hq hlt ht
  go_enter Try.func108, Try.ntmps108
  go_wp2
  go_quiet (fail)
  go_wp2
  rw [HQ.out]
  clear hu1 hu2 hv1 c1 c0b0 c0b1 p2 q2 q3 hji hjw
  go_loopw [8, 9, 41] (fun v8 v9 v41 wr => ∃ (i : Nat) (zs : List Int) (cy bw : Int), i ≤ m ∧ v8 = .int .u64 cy ∧ v9 = .int .u64 bw ∧ v41 = .int .i64 i ∧ Aside0 (DA j n xs vs q i zs cy bw) ∧ Aside0 (Kd.R (Kd.int .u32) 68 wr base ok (.slice (some ⟨g, 0, none⟩) L cap) zs) ∧ Aside0 (Kd.R (Kd.int .u32) 68 wr baseV (fun k => k < B) (.slice (some ⟨gv, 0, none⟩) n cv) vs) ∧ Aside0 (w.grownBy wr (some g))) (fun _ _ v41 _ => m - (intOf v41).toNat)
  case atStart => exact ⟨0, xs, 0, 0, Nat.zero_le _, rfl, rfl, rfl, ⟨DA.start hx⟩, ⟨Kd.R_drewN HR.out _⟩, ⟨Kd.R_drewN HV.out _⟩, ⟨grown_drewN _ _ _⟩⟩
  case round =>
    clear HR HV HQ
    obtain ⟨i, zs, cy, bw, hi, rfl, rfl, rfl, D, R, V, G⟩ := hrel
    by_cases him : i < m
    · obtain ⟨r1, r2, r3, r3w⟩ := round_facts (n := n) him (by have := HJ.out; have := HL.out; omega)
      obtain ⟨x1, x2, x3⟩ := cell_at R.out (j + i) (by have := HJ.out; omega)
      have X := Aside0.mk x3
      clear x3
      generalize hx0 : zs.getD (j + i) 0 = x at x1
      have HX := Aside0.mk hx0
      clear hx0
      by_cases hin : i < n
      · have r4 := lt_true hin
        obtain ⟨y1, -, -⟩ := cell_at V.out i hin
        generalize hy0 : vs.getD i 0 = y at y1
        have HY := Aside0.mk hy0
        clear hy0
        go_wp2
        go_roundw
        case rel =>
          have D' := D.out
          have gy := ok_getD hv i
          have gx := ok_getD D'.ok (j + i)
          rw [HX.out] at gx
          rw [HY.out] at gy
          rw [da_p D'.cy0 D'.cy1 q0 qq1 gy.1 gy.2, da_d gx.1 gx.2]
          exact ⟨i + 1, zs.set (j + i) _, _, _, him, rfl, rfl, by go_num, ⟨DA.step D' (Nat.le_of_lt hin) (by have := HJ.out; have := HM.out; have := HXL.out; omega) HVL.out hv q0 qq1 (by rw [HY.out]) (by rw [HX.out])⟩, ⟨(X.out _).1⟩, ⟨Kd.R_grown V.out (X.out _).2 (far_of hok R.out)⟩, ⟨World.grownBy.trans G.out (X.out _).2⟩⟩
        case measure => simp [intOf]; omega
      · have r4 := lt_false hin
        have hie := Aside0.mk (show i = n by have := HM.out; omega)
        go_wp2
        go_roundw
        case rel =>
          have D' := D.out
          have gx := ok_getD D'.ok (j + i)
          rw [HX.out] at gx
          rw [da_d gx.1 gx.2]
          exact ⟨i + 1, zs.set (j + i) _, _, _, him, rfl, rfl, by go_num, ⟨DA.step D' (Nat.le_of_eq hie.out) (by have := HJ.out; have := HM.out; have := HXL.out; omega) HVL.out hv q0 qq1 (by rw [getD_ge vs i (by rw [HVL.out, hie.out]; exact Nat.le_refl _)]; simp) (by rw [HX.out])⟩, ⟨(X.out _).1⟩, ⟨Kd.R_grown V.out (X.out _).2 (far_of hok R.out)⟩, ⟨World.grownBy.trans G.out (X.out _).2⟩⟩
        case measure => simp [intOf]; omega
    · have r2 := lt_false him
      have C := Aside0.mk (by
        have h := D.out
        have hie : i = n + 1 := by have := HM.out; omega
        rw [hie] at h
        exact DC.start h HVL.out q0 qq1 QLT.out)
      clear D QLT
      go_wp2
      go_loopw [7, 9] (fun v7 v9 wr => ∃ (q1 bw : Int) (zs : List Int), v7 = .int .u64 q1 ∧ v9 = .int .u64 bw ∧ Aside0 (DC j n xs vs zs q1 bw) ∧ Aside0 (Kd.R (Kd.int .u32) 68 wr base ok (.slice (some ⟨g, 0, none⟩) L cap) zs) ∧ Aside0 (Kd.R (Kd.int .u32) 68 wr baseV (fun k => k < B) (.slice (some ⟨gv, 0, none⟩) n cv) vs) ∧ Aside0 (w.grownBy wr (some g))) (fun v7 _ _ => (intOf v7).toNat)
      case atStart => exact ⟨q, bw, zs, rfl, rfl, C, R, V, G⟩
      case round =>
        clear C R V G q0 qq1 hi him
        obtain ⟨q2, bw2, zs2, rfl, rfl, C, R, V, G⟩ := hrel
        by_cases hb : 0 < bw2
        · have b1 := gt_true hb
          have HBW := Aside0.mk hb
          clear hb
          obtain ⟨wo, hwo⟩ : ∃ wo : World, wo = wr := ⟨_, rfl⟩
          subst hwo
          go_wp2
          go_loopw [13, 84] (fun v13 v84 wr => ∃ (i : Nat) (ys : List Int) (c : Int), i ≤ m ∧ v13 = .int .u64 c ∧ v84 = .int .i64 i ∧ Aside0 (DB j zs2 vs i ys c) ∧ Aside0 (Kd.R (Kd.int .u32) 68 wr base ok (.slice (some ⟨g, 0, none⟩) L cap) ys) ∧ Aside0 (Kd.R (Kd.int .u32) 68 wr baseV (fun k => k < B) (.slice (some ⟨gv, 0, none⟩) n cv) vs) ∧ Aside0 (w.grownBy wr (some g))) (fun _ v84 _ => m - (intOf v84).toNat)
          case atStart => exact ⟨0, zs2, 0, Nat.zero_le _, rfl, rfl, ⟨DB.start C.out.ok⟩, R, V, G⟩
          case round =>
            clear R V G
            obtain ⟨i, ys, c2, hi, rfl, rfl, D, R, V, G⟩ := hrel
            by_cases him : i < m
            · obtain ⟨r1, r2, r3, r3w⟩ := round_facts (n := n) him (by have := HJ.out; have := HL.out; omega)
              obtain ⟨x1, x2, x3⟩ := cell_at R.out (j + i) (by have := HJ.out; omega)
              have X := Aside0.mk x3
              clear x3
              generalize hx0 : ys.getD (j + i) 0 = x at x1
              have HX := Aside0.mk hx0
              clear hx0
              by_cases hin : i < n
              · have r4 := lt_true hin
                obtain ⟨y1, -, -⟩ := cell_at V.out i hin
                generalize hy0 : vs.getD i 0 = y at y1
                have HY := Aside0.mk hy0
                clear hy0
                go_wp2
                go_roundw
                case rel =>
                  have D' := D.out
                  have gy := ok_getD hv i
                  have gx := ok_getD D'.ok (j + i)
                  rw [HX.out] at gx
                  rw [HY.out] at gy
                  rw [db_s D'.c0 D'.c1 gx.1 gx.2 gy.1 gy.2]
                  exact ⟨i + 1, ys.set (j + i) _, _, him, rfl, by go_num, ⟨DB.step (n := n) D' (Nat.le_of_lt hin) (by have := HJ.out; have := HM.out; have := HXL.out; have := C.out.len; omega) hv (by rw [HY.out, HX.out])⟩, ⟨(X.out _).1⟩, ⟨Kd.R_grown V.out (X.out _).2 (far_of hok R.out)⟩, ⟨World.grownBy.trans G.out (X.out _).2⟩⟩
                case measure => simp [intOf]; omega
              · have r4 := lt_false hin
                have hie := Aside0.mk (show i = n by have := HM.out; omega)
                go_wp2
                go_roundw
                case rel =>
                  have D' := D.out
                  have gx := ok_getD D'.ok (j + i)
                  rw [HX.out] at gx
                  rw [db_s1 D'.c0 D'.c1 gx.1 gx.2]
                  exact ⟨i + 1, ys.set (j + i) _, _, him, rfl, by go_num, ⟨DB.step (n := n) D' (Nat.le_of_eq hie.out) (by have := HJ.out; have := HM.out; have := HXL.out; have := C.out.len; omega) hv (by rw [HX.out, getD_ge vs i (by rw [HVL.out, hie.out]; exact Nat.le_refl _)]; simp)⟩, ⟨(X.out _).1⟩, ⟨Kd.R_grown V.out (X.out _).2 (far_of hok R.out)⟩, ⟨World.grownBy.trans G.out (X.out _).2⟩⟩
                case measure => simp [intOf]; omega
            · have r2 := lt_false him
              have D2 := Aside0.mk (by
                have h := D.out
                have hie : i = n + 1 := by have := HM.out; omega
                rw [hie] at h
                exact DC.step C.out hx hv HVL.out HBW.out h)
              have hq2 := C.out.neg hx hv HBW.out
              have HQ2 := Aside0.mk hq2.1
              have HB := Aside0.mk D.out.c0
              clear D
              go_wp2
              go_roundw
              case rel =>
                have h2 := D2.out
                rw [u64w (n := q2 - 1) h2.q0 (by have := h2.q1; omega), u64w (n := bw2 - c2) h2.bw0 (by have := h2.bw1; omega)]
                exact ⟨_, _, ys, rfl, rfl, D2, R, V, G⟩
              case measure =>
                have h2 := D2.out
                rw [u64w (n := q2 - 1) h2.q0 (by have := h2.q1; omega)]
                have := HQ2.out
                simp [intOf]; omega
        · have b1 := gt_false hb
          have HBW := Aside0.mk hb
          clear hb
          have h := C.out
          have hbw : bw2 = 0 := by have := h.bw0; have := HBW.out; omega
          have hqm : q2 % 4294967296 = q2 := by have := h.q0; have := h.q1; omega
          rw [hbw] at h
          have H := Aside0.mk h
          have QM := Aside0.mk hqm
          clear h hbw hqm
          go_wp2
          go_ret
          exact ⟨q2, by (rw [QM.out]; rfl), zs2, H.out, R.out, G.out⟩
end Go.Proofs.Ytmbmbmkmjbpcpaa.PA

