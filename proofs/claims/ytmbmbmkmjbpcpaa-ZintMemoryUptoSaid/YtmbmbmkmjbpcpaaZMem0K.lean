/- What may be spoilt: rows of words of which only the block and its cells' kind are told; no program's code is named. -/
import Derived.Outline
import Derived.Test.YtmbmbmkmjbpcpaaZDK
import Derived.Test.YtmbmbmkmjbpcpaaPAx0K
namespace Go.Proofs.Ytmbmbmkmjbpcpaa.PA
open Go Go.Proofs.Ytmbmbmkmjbpcpaa.Nums Go.RowKit Go.Proofs.YtmbmbmkmjbpcpaaW.PrintWords Go.Proofs.YtmbmbmkmjbpcpaaW.PrintLast Go.Proofs.YtmbmbmkmjbpcpaaW.PrintMore
set_option linter.unusedVariables false
set_option linter.unusedSimpArgs false
/-- only one block has turned, and in it words alone have come -/
structure Sp8 (w w' : World) (b : Option Nat) : Prop where
  size : w.heap.size ≤ w'.heap.size
  far : ∀ k, k < w.heap.size → some k ≠ b → w'.heap[k]? = w.heap[k]?
  near : ∀ (g : Nat) (cur : Array Value), b = some g → w.heap[g]? = some (.cells cur 68 (0, 0)) → ∃ cur', w'.heap[g]? = some (.cells cur' 68 (0, 0)) ∧ cur'.size = cur.size ∧ ∀ i : Nat, cur'[i]? = cur[i]? ∨ ∃ x, cur'[i]? = some (.int .u32 x)
theorem Sp8.refl (w : World) (b : Option Nat) : Sp8 w w b := ⟨Nat.le_refl _, fun _ _ _ => rfl, fun g cur _ h => ⟨cur, h, rfl, fun _ => .inl rfl⟩⟩
theorem Sp8.trans {w w1 w2 : World} {b : Option Nat} (h : Sp8 w w1 b) (k : Sp8 w1 w2 b) : Sp8 w w2 b := by
  refine ⟨Nat.le_trans h.size k.size, fun i hi hb => (k.far i (Nat.lt_of_lt_of_le hi h.size) hb).trans (h.far i hi hb), fun g cur hb hg => ?_⟩
  obtain ⟨c1, h1, s1, p1⟩ := h.near g cur hb hg
  obtain ⟨c2, h2, s2, p2⟩ := k.near g c1 hb h1
  refine ⟨c2, h2, s2.trans s1, fun i => ?_⟩
  rcases p2 i with e | e
  · rcases p1 i with e1 | ⟨x, e1⟩
    · exact .inl (e.trans e1)
    · exact .inr ⟨x, e.trans e1⟩
  · exact .inr e
theorem Sp8.more {w w1 w2 : World} {b b2 : Option Nat} (h : Sp8 w w1 b) (k : Sp8 w1 w2 b2) (hb : ∀ g, b2 = some g → w.heap.size ≤ g) : Sp8 w w2 b := by
  have hne : ∀ i, i < w.heap.size → some i ≠ b2 := fun i hi e => by have := hb i e.symm; omega
  refine ⟨Nat.le_trans h.size k.size, fun i hi he => (k.far i (Nat.lt_of_lt_of_le hi h.size) (hne i hi)).trans (h.far i hi he), fun g cur he hg => ?_⟩
  obtain ⟨c1, h1, s1, p1⟩ := h.near g cur he hg
  have hlt : g < w.heap.size := blk_lt hg
  exact ⟨c1, (k.far g (Nat.lt_of_lt_of_le hlt h.size) (hne g hlt)).trans h1, s1, p1⟩
theorem u32_list : ∀ (cs : List Value), (∀ c ∈ cs, ∃ x, c = .int .u32 x) → ∃ l : List Int, cs = encs (Value.int .u32) l := by
  intro cs
  induction cs with
  | nil => exact fun _ => ⟨[], rfl⟩
  | cons c r ih =>
    intro h
    obtain ⟨x, rfl⟩ := h c (List.mem_cons_self ..)
    obtain ⟨l, rfl⟩ := ih (fun c hc => h c (List.mem_cons_of_mem _ hc))
    exact ⟨x :: l, rfl⟩
theorem row_spoil {w w' : World} {base : Nat} {u : Value} {b : Option Nat} {l : List Int} (hr : Kd.R (Kd.int .u32) 68 w base (fun _ => True) u l) (k : Sp8 w w' b) : ∃ l' : List Int, Kd.R (Kd.int .u32) 68 w' base (fun _ => True) u l' ∧ l'.length = l.length := by
  have ho := Kd.own_of_R hr
  rcases ho.2 with ⟨rfl, hn⟩ | ⟨g, cap, cur, rfl, hg, hh, hnc, hcm, hcs, ht⟩
  · have e : l = [] := List.length_eq_zero_iff.mp hn
    subst e
    exact ⟨[], Kd.R_nil _ _ _ _ _, rfl⟩
  · have hlt : g < w.heap.size := blk_lt hh
    by_cases hb : some g = b
    · obtain ⟨cur', h1, s1, p1⟩ := k.near g cur hb.symm hh
      have hcur : ∀ i, i < l.length → ∃ x, cur[i]? = some (.int .u32 x) := by
        intro i hi
        have e1 := congrArg (fun (q : List Value) => q[i]?) ht
        simp only [Nat.mul_one] at e1
        rw [List.getElem?_take_of_lt hi] at e1
        refine ⟨l.getD i 0, ?_⟩
        have e2 : (encs (Value.int .u32) l)[i]? = some (.int .u32 (l.getD i 0)) := encs_get l i hi
        rw [e2] at e1
        simpa using e1
      have hall : ∀ c ∈ cur'.toList.take l.length, ∃ x, c = .int .u32 x := by
        intro c hc
        obtain ⟨i, hi⟩ := List.getElem?_of_mem hc
        have hil : i < l.length := by
          rcases Nat.lt_or_ge i l.length with h2 | h2
          · exact h2
          · rw [List.getElem?_take_eq_none h2] at hi; cases hi
        rw [List.getElem?_take_of_lt hil] at hi
        have hi' : cur'[i]? = some c := by simpa using hi
        rcases p1 i with e | ⟨x, e⟩
        · obtain ⟨x, hx⟩ := hcur i hil
          rw [e, hx] at hi'
          exact ⟨x, (Option.some.inj hi').symm⟩
        · rw [e] at hi'
          exact ⟨x, (Option.some.inj hi').symm⟩
      obtain ⟨l', hl'⟩ := u32_list _ hall
      have hlen : l'.length = l.length := by
        have := congrArg List.length hl'
        rw [encs_length, List.length_take] at this
        have h3 : cur'.toList.length = cap := by
          rw [Array.length_toList, s1, hcs]
          simp
        omega
      refine ⟨l', Kd.R_of_own ⟨by simp [encs_length], .inr ⟨g, cap, cur', by rw [hlen], hg, h1, by omega, hcm, s1.trans hcs, ?_⟩⟩ (fun _ _ => trivial), hlen⟩
      rw [hlen, Nat.mul_one]
      exact hl'
    · refine ⟨l, Kd.R_of_own ⟨ho.1, .inr ⟨g, cap, cur, rfl, hg, (k.far g hlt hb).trans hh, hnc, hcm, hcs, ht⟩⟩ (fun _ _ => trivial), rfl⟩
/-- a word is written into a row -/
theorem Sp8.put {w : World} {g : Nat} {cur : Array Value} {i : Nat} {x : Int} (hg : w.heap[g]? = some (.cells cur 68 (0, 0))) : Sp8 w (w.setCell ⟨g, i, none⟩ (.int .u32 x)) (some g) := by
  refine ⟨by simp [World.setCell], fun k _ hk => Below.heap_setCell _ _ _ _ (fun e => hk (by rw [e])), fun g2 c2 e2 h2 => ?_⟩
  injection e2 with e2
  subst e2
  rw [hg] at h2
  injection h2 with h2
  injection h2 with h2
  subst h2
  refine ⟨cur.setIfInBounds i (.int .u32 x), blk_set hg i _, by simp, fun j => ?_⟩
  by_cases e : i = j
  · subst e
    rcases Nat.lt_or_ge i cur.size with h3 | h3
    · exact .inr ⟨x, by simp [h3]⟩
    · exact .inl (by simp [Array.getElem?_eq_none h3]; exact h3)
  · exact .inl (by rw [Array.getElem?_setIfInBounds_ne e])
theorem own_below {w w1 : World} {base : Nat} {v : Value} {b : Option Nat} (hb : base ≤ w.heap.size) (hg : w.grownBy w1 b) (hv : ∀ k, b = some k → base ≤ k) : Below base w w1 :=
  ⟨hg.os, hg.tape, hg.output, hg.size, fun k hk => hg.block k (by omega) (fun e => by have := hv k e.symm; omega)⟩
theorem run_appU {w : World} {base h : Nat} {v : Value} {l : List Int} {x : Int} {ty : TypeId} (hr : Kd.R (Kd.int .u32) 68 w base (fun _ => True) v l) (hl : l.length ≤ 20000000) (hb : base ≤ w.heap.size) (hx : w.cell? ⟨h, 0, none⟩ = some (.int .u32 x)) :
    ∃ v1 w1, (Builtin.append_ #[23, 23] ty #[v, .slice (some ⟨h, 0, none⟩) 1 1]).run Try.prog w = .ok v1 w1 ∧ Kd.R (Kd.int .u32) 68 w1 base (fun _ => True) v1 (l ++ [x]) ∧ Sp8 w w1 v.ownBlock ∧ Below base w w1 ∧ (v1.ownBlock = v.ownBlock ∨ ∃ k, v1.ownBlock = some k ∧ w.heap.size ≤ k) := by
  have ho := Kd.own_of_R hr
  obtain ⟨i, hi, hq⟩ := Option.map_eq_some_iff.mp info68
  simp only [Prod.mk.injEq] at hq
  obtain ⟨hz, hs, hy⟩ := hq
  have hnews : ∀ (j : Nat) (u : Value), ([.int .u32 x] : List Value)[j]? = some u → w.cell? ((⟨h, 0, none⟩ : Addr).add j) = some u := by
    intro j u hj
    cases j with
    | zero => simp at hj; subst hj; exact hx
    | succ j => simp at hj
  have h1 : ∀ u ∈ ([.int .u32 x] : List Value), u.oneCell' = true := by
    intro u hu
    rw [List.mem_singleton.mp hu]
    rfl
  obtain ⟨v1, w1, hrun, hown, hg, -⟩ := run_append_own (P := Try.prog) (w := w) base 23 ty 68 i (.int .u32 0) 1 4 Try.underlying23 hi hz hs hy rfl (by decide) v l.length _ ho ⟨h, 0, none⟩ 1 1 [.int .u32 x] rfl hnews h1 (by simp only [maxLen]; omega) (by omega) hb
  have hbl : ∀ k, v.ownBlock = some k → base ≤ k := fun k hk => (ho.lt k hk).1
  have hr1 : Kd.R (Kd.int .u32) 68 w1 base (fun _ => True) v1 (l ++ [x]) := by
    have e : encs (Value.int .u32) (l ++ [x]) = encs (Value.int .u32) l ++ [.int .u32 x] := by simp [encs]
    refine Kd.R_of_own ?_ (fun _ _ => trivial)
    rw [e, List.length_append]
    exact hown
  refine ⟨v1, w1, hrun, hr1, ⟨hg.size, hg.block, fun g cur he hh => ?_⟩, own_below (v := v) hb hg hbl, ?_⟩
  · rcases ho.2 with ⟨rfl, hn⟩ | ⟨g', cap, cur', rfl, hbg, hh', hnc, hcm, hcs, ht⟩
    · simp [Value.ownBlock] at he
    · have eg : g' = g := by simpa [Value.ownBlock] using he
      subst eg
      rw [hh] at hh'
      injection hh' with hh'
      injection hh' with hh'
      subst hh'
      by_cases hroom : l.length + 1 ≤ cap
      · have r2 := run_append_room (P := Try.prog) w 23 ty 68 i Try.underlying23 hi g' l.length cap cur hh ⟨h, 0, none⟩ 1 1 [.int .u32 x] (by rw [hs]; rfl) hnews h1 hroom (by rw [hs, hcs]; simp; exact hroom)
        rw [hrun] at r2
        injection r2 with _ r2
        subst r2
        have hcl : cur.toList.length = cap := by
          have e3 : cur.toList.length = cur.size := by simp
          omega
        rw [hs, Nat.mul_one]
        refine ⟨_, setRow_heap w g' cur _ _ _ hh, ?_, fun j => ?_⟩
        · simp
          rw [hcs] at *
          omega
        · simp only [List.getElem?_toArray]
          rcases Nat.lt_trichotomy j l.length with hj | hj | hj
          · left
            rw [List.append_assoc, List.getElem?_append_left (by rw [List.length_take, hcl]; omega), List.getElem?_take_of_lt hj]
            simp
          · right
            refine ⟨x, ?_⟩
            subst hj
            rw [List.append_assoc, List.getElem?_append_right (by rw [List.length_take, hcl]; omega)]
            rw [List.length_take, hcl, Nat.min_eq_left (by omega), Nat.sub_self]
            rfl
          · left
            rw [List.getElem?_append_right (by rw [List.length_append, List.length_take, hcl]; simp; omega)]
            rw [List.length_append, List.length_take, hcl, Nat.min_eq_left (by omega), List.getElem?_drop]
            have e2 : l.length + ([.int .u32 x] : List Value).length + (j - (l.length + ([.int .u32 x] : List Value).length)) = j := by simp; omega
            rw [e2]
            simp
      · have holds : ∀ (j : Nat) (u : Value), (encs (Value.int .u32) l)[j]? = some u → w.cell? ((⟨g', 0, none⟩ : Addr).add j) = some u := ho.cells (g := g') rfl
        have r2 := run_append_grow (P := Try.prog) w 23 ty 68 i (.int .u32 0) Try.underlying23 hi hz ⟨g', 0, none⟩ l.length cap _ (by rw [hs]; exact ho.1) holds ⟨h, 0, none⟩ 1 1 [.int .u32 x] (by rw [hs]; rfl) hnews (by omega) (by omega) (growslice_fits (by omega) (by rw [hy]; omega))
        rw [hrun] at r2
        injection r2 with _ r2
        subst r2
        refine ⟨cur, ?_, rfl, fun _ => .inl rfl⟩
        exact (Below.heap_alloc w.drew _ g' (blk_lt hh)).trans hh
  · rcases ho.2 with ⟨rfl, hn⟩ | ⟨g', cap, cur', rfl, hbg, hh', hnc, hcm, hcs, ht⟩
    · right
      have r2 := run_append_nil (P := Try.prog) w 23 ty 68 i (.int .u32 0) Try.underlying23 hi hz ⟨h, 0, none⟩ 1 1 [.int .u32 x] (by rw [hs]; rfl) hnews (by omega) (by omega) (by rw [hy]; omega)
      rw [hrun] at r2
      have e := (Result.ok.inj r2).1
      exact ⟨w.heap.size, by rw [e]; rfl, Nat.le_refl _⟩
    · by_cases hroom : l.length + 1 ≤ cap
      · left
        have r2 := run_append_room (P := Try.prog) w 23 ty 68 i Try.underlying23 hi g' l.length cap cur' hh' ⟨h, 0, none⟩ 1 1 [.int .u32 x] (by rw [hs]; rfl) hnews h1 hroom (by rw [hs, hcs]; simp; exact hroom)
        rw [hrun] at r2
        have e := (Result.ok.inj r2).1
        rw [e]
        rfl
      · right
        have holds : ∀ (j : Nat) (u : Value), (encs (Value.int .u32) l)[j]? = some u → w.cell? ((⟨g', 0, none⟩ : Addr).add j) = some u := ho.cells (g := g') rfl
        have r2 := run_append_grow (P := Try.prog) w 23 ty 68 i (.int .u32 0) Try.underlying23 hi hz ⟨g', 0, none⟩ l.length cap _ (by rw [hs]; exact ho.1) holds ⟨h, 0, none⟩ 1 1 [.int .u32 x] (by rw [hs]; rfl) hnews (by omega) (by omega) (growslice_fits (by omega) (by rw [hy]; omega))
        rw [hrun] at r2
        have e := (Result.ok.inj r2).1
        exact ⟨w.heap.size, by rw [e]; rfl, Nat.le_refl _⟩
end Go.Proofs.Ytmbmbmkmjbpcpaa.PA

