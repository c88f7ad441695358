/- The statement NatTexts, over numbers and lists alone, for lists and texts of a bulk of at most 1048576. -/
import Derived.Test.YtnlkafjhbjlhaaaNatTextK
import Derived.Test.YtnlkafjhbjlhaaaReadCK
import Derived.Test.YtnlkafjhbjlhaaaNatAwakeK
import Derived.Test.YtnlkafjhbjlhaaaNatBK
import Derived.Test.YtnlkafjhbjlhaaaPAx16K
import Derived.Test.YtnlkafjhbjlhaaaPAx20K
namespace Go.Proofs.Ytnlkafjhbjlhaaa.PA
open Go Go.RowKit Go.Proofs.YtnlkafjhbjlhaaaW.PrintWords Go.Proofs.YtnlkafjhbjlhaaaW.PrintLast Go.Proofs.YtnlkafjhbjlhaaaW.PrintMore
open Go.Proofs.Ytnlkafjhbjlhaaa.Nums
theorem readR_len (s : ByteArray) : (readR s).1.length ≤ 65536 := by
  unfold readR
  by_cases h1 : s.size > 65536
  · rw [if_pos h1]; simp
  · rw [if_neg h1]
    by_cases h2 : s.size = 0
    · rw [if_pos h2]; simp
    · rw [if_neg h2]
      cases hs : scan s s.size 0 with
      | some i => simp [scanR]
      | none =>
        have h := digits_num (s := s) (fun j hj => by
          cases hb : badAt s j with
          | false => rfl
          | true =>
            exfalso
            have : ∃ p, p ≤ j ∧ badAt s p = true ∧ ∀ i, i < p → badAt s i = false := by
              have key : ∀ m, m ≤ j + 1 → (∀ i, i < m → badAt s i = false) ∨ ∃ p, p < m ∧ badAt s p = true ∧ ∀ i, i < p → badAt s i = false := by
                intro m
                induction m with
                | zero => intro _; left; intro i hi; omega
                | succ m ih =>
                  intro hm
                  rcases ih (by omega) with h | ⟨p, hp, h⟩
                  · cases hm2 : badAt s m with
                    | false =>
                      left; intro i hi
                      by_cases e : i = m
                      · rw [e]; exact hm2
                      · exact h i (by omega)
                    | true => right; exact ⟨m, by omega, hm2, h⟩
                  · right; exact ⟨p, by omega, h⟩
              rcases key (j + 1) (Nat.le_refl _) with h | ⟨p, hp, h⟩
              · rw [h j (by omega)] at hb; cases hb
              · exact ⟨p, by omega, h⟩
            obtain ⟨p, hp, hb2, hg⟩ := this
            have := scan_bad (by omega) hg hb2
            rw [hs] at this
            simp [scanR] at this) s.size (Nat.le_refl _)
        have := numv_len h.2 h.1
        show (lm _).length ≤ _
        omega
theorem texts_ev (haw : Ev (fun k => trammellaw01_awake.f k) true) (l : List Int) (s : ByteArray) (ol : Ok l) (hl : l.length ≤ 1048576) : Ev (fun k => trammellaw01_NatTexts.f k l s) true := by
  unfold trammellaw01_NatTexts.f
  refine Ev.bind (Ev.now (readR s)) ?_
  refine Ev.bind (rread_f s) (Ev.bind (text_f l ol (by omega)) (Ev.bind (rtext_f l ol (by omega)) (ev_pos rfl ?_)))
  refine Ev.bind (same_f _ _ rfl (by have := readR_len s; omega)) ?_
  refine ev_pos rfl (ev_pos rfl (ev_pos rfl ?_))
  exact Ev.bind haw (ev_now rfl)
end Go.Proofs.Ytnlkafjhbjlhaaa.PA
namespace Go.Proofs.Ytnlkafjhbjlhaaa.Pure
open Go Go.RowKit Go.Proofs.YtnlkafjhbjlhaaaW.PrintWords Go.Proofs.Ytnlkafjhbjlhaaa.PA
theorem NatTexts : trammellaw01_NatTexts.Pure := by
  intro a s _ la ha _
  exact (texts_ev awake_ev a s (ok_of ha) la).rounds
end Go.Proofs.Ytnlkafjhbjlhaaa.Pure
