/- The laws' own copies with marked room behind the end: what copied makes, that kept finds it as it was; for lists of at most 1048576 words. -/
import Derived.Test.YtnlkafjhbjlhaaaNatAK
import Derived.Test.YtnlkafjhbjlhaaaRowkK
import Derived.Test.YtnlkafjhbjlhaaaPAx10K
namespace Go.Proofs.Ytnlkafjhbjlhaaa.PA
open Go Go.Proofs.Ytnlkafjhbjlhaaa.Nums Go.RowKit Go.Proofs.YtnlkafjhbjlhaaaW.PrintWords Go.Proofs.YtnlkafjhbjlhaaaW.PrintLast Go.Proofs.YtnlkafjhbjlhaaaW.PrintMore
attribute [local go_sem] max2_int min2_int max_two min_two max_three min_three max_four min_four
set_option linter.unusedVariables false
set_option linter.unusedSimpArgs false
def trammellaw01_copied.f (l0 : List Int) : Option (List Int) := if ([] : List Int).length + l0.length < 35184372088832 then ((some (([] : List Int) ++ l0 : List Int)).bind fun y101 => ((some (([77, 78, 79] : List Int) : List Int)).bind fun y104 => (if y101.length + y104.length < 35184372088832 then ((some (y101 ++ y104 : List Int)).bind fun y107 => (if 0 ≤ (l0.length : Int) then (if (l0.length : Int) ≤ (y107.length : Int) then (some (y107.take ((l0.length : Int) : Int).toNat)) else (none)) else (none))) else (none)))) else (none)
def CopiedPost (l0 : List Int) (w : World) (e : Ending) (w' : World) : Prop :=
  ∃ (A : Option Addr) (cap : Nat), e = .returned (.slice A l0.length cap) ∧ Kd.R (Kd.int .u32) 31 w' w.heap.size (fun _ => True) (.slice A (l0.length + 3) cap) (l0 ++ [77, 78, 79]) ∧ Below w.heap.size w w'
theorem copied_end {l0 y101 y104 y107 y110 : List Int} {w w' : World} {A : Option Addr} {cap : Nat} (h101 : y101 = [] ++ l0) (h104 : y104 = [77, 78, 79]) (h107 : y107 = y101 ++ y104) (h110 : y110 = y107.take ((l0.length : Int)).toNat)
    (HO : Kd.R (Kd.int .u32) 31 w' w.heap.size (fun _ => True) (.slice A y107.length cap) y107) (HB : Below w.heap.size w w') : CopiedPost l0 w (.returned (.slice A y110.length cap)) w' := by
  subst h101; subst h104; subst h107; subst h110
  refine ⟨A, cap, ?_, ?_, HB⟩
  · simp
  · simpa using HO
set_option maxHeartbeats 8000000 in
set_option maxRecDepth 100000 in
theorem copied_calls (A0 : Option Addr) (c0 : Nat) (l0 : List Int) (r : List Int) (w : World) (hr0 : Kd.C (Kd.int .u32) w A0 l0.length l0) (hc0 : l0.length ≤ c0) (h : trammellaw01_copied.f l0 = some r) :
    Calls Try.prog 14 #[.slice A0 l0.length c0] w (CopiedPost l0 w) := by
  have HR0 := Aside0.mk hr0
  have HC0 := Aside0.mk hc0
  clear hr0 hc0
  have HB := Aside0.mk (Below.refl w.heap.size w)
  have H : (if ([] : List Int).length + l0.length < 35184372088832 then ((some (([] : List Int) ++ l0 : List Int)).bind fun y101 => ((some (([77, 78, 79] : List Int) : List Int)).bind fun y104 => (if y101.length + y104.length < 35184372088832 then ((some (y101 ++ y104 : List Int)).bind fun y107 => (if 0 ≤ (l0.length : Int) then (if (l0.length : Int) ≤ (y107.length : Int) then (some (y107.take ((l0.length : Int) : Int).toNat)) else (none)) else (none))) else (none)))) else (none)) = some r := h
  clear h
  by_cases c2 : ([] : List Int).length + l0.length < 35184372088832
  · rw [if_pos c2] at H
    have LMc2 := Aside0.mk c2
    clear c2
    obtain ⟨y101, hy101⟩ : ∃ y_ : List Int, y_ = (([] : List Int) ++ l0) := ⟨_, rfl⟩
    replace H : ((some (([77, 78, 79] : List Int) : List Int)).bind fun y104 => (if y101.length + y104.length < 35184372088832 then ((some (y101 ++ y104 : List Int)).bind fun y107 => (if 0 ≤ (l0.length : Int) then (if (l0.length : Int) ≤ (y107.length : Int) then (some (y107.take ((l0.length : Int) : Int).toNat)) else (none)) else (none))) else (none))) = some r := by first | (rw [hy101]; with_reducible exact H) | (have H2_ := (Option.bind_some _ _).symm.trans H; rw [hy101]; with_reducible exact H2_) | (have H2_ := (Option.bind_some _ _).symm.trans H; with_reducible exact H2_) | with_reducible exact H | (rw [hy101]; exact H) | exact H
    have Ny101 := Aside0.mk hy101
    clear hy101
    obtain ⟨y104, hy104⟩ : ∃ y_ : List Int, y_ = (([77, 78, 79] : List Int)) := ⟨_, rfl⟩
    replace H : (if y101.length + y104.length < 35184372088832 then ((some (y101 ++ y104 : List Int)).bind fun y107 => (if 0 ≤ (l0.length : Int) then (if (l0.length : Int) ≤ (y107.length : Int) then (some (y107.take ((l0.length : Int) : Int).toNat)) else (none)) else (none))) else (none)) = some r := by first | (rw [hy104]; with_reducible exact H) | (have H2_ := (Option.bind_some _ _).symm.trans H; rw [hy104]; with_reducible exact H2_) | (have H2_ := (Option.bind_some _ _).symm.trans H; with_reducible exact H2_) | with_reducible exact H | (rw [hy104]; exact H) | exact H
    have Ny104 := Aside0.mk hy104
    clear hy104
    by_cases c3 : y101.length + y104.length < 35184372088832
    · rw [if_pos c3] at H
      have LMc3 := Aside0.mk c3
      clear c3
      obtain ⟨y107, hy107⟩ : ∃ y_ : List Int, y_ = (y101 ++ y104) := ⟨_, rfl⟩
      replace H : (if 0 ≤ (l0.length : Int) then (if (l0.length : Int) ≤ (y107.length : Int) then (some (y107.take ((l0.length : Int) : Int).toNat)) else (none)) else (none)) = some r := by first | (rw [hy107]; with_reducible exact H) | (have H2_ := (Option.bind_some _ _).symm.trans H; rw [hy107]; with_reducible exact H2_) | (have H2_ := (Option.bind_some _ _).symm.trans H; with_reducible exact H2_) | with_reducible exact H | (rw [hy107]; exact H) | exact H
      have Ny107 := Aside0.mk hy107
      clear hy107
      by_cases c4 : 0 ≤ (l0.length : Int)
      · rw [if_pos c4] at H
        have c4b0 := eq_true c4
        have c4b1 : decide (0 ≤ (l0.length : Int)) = true := decide_eq_true c4
        clear c4
        by_cases c5 : (l0.length : Int) ≤ (y107.length : Int)
        · rw [if_pos c5] at H
          have c5b0 := eq_true c5
          have c5b1 : decide ((l0.length : Int) ≤ (y107.length : Int)) = true := decide_eq_true c5
          clear c5
          obtain ⟨y110, hy110⟩ : ∃ y_ : List Int, y_ = (y107.take ((l0.length : Int) : Int).toNat) := ⟨_, rfl⟩
          replace H : (some y110) = some r := by first | (rw [hy110]; with_reducible exact H) | (have H2_ := (Option.bind_some _ _).symm.trans H; rw [hy110]; with_reducible exact H2_) | (have H2_ := (Option.bind_some _ _).symm.trans H; with_reducible exact H2_) | with_reducible exact H | (rw [hy110]; exact H) | exact H
          have Ny110 := Aside0.mk hy110
          clear hy110
          obtain rfl := Option.some.inj H
          go_enter Try.func14, Try.ntmps14
          go_wp2_with (first | ((with_reducible refine gate_builtin (b := .append) (xs := #[.tmp 4, .tmp 5]) rfl ?_); at_builtin; refine Kd.R_append_rows (Kd.int .u32) (w0 := w) w.heap.size rfl (.tmp 4) (.tmp 5) 22 31 (.int .u32 0) 4 rfl Try.underlying22 info31 rfl (by decide) (by omega) (.slice none 0 0) ([] : List Int) l0 _ _ _ (fun _ => True) (fun _ => False) rfl rfl ?aO ?aR (fun _ _ h => h) (fun _ h => h.elim) ?aF ?aB ?aS ?aL ?_; (case aR => repeat (first | exact HR0.out | (with_reducible refine Kd.C_alloc ?_ _) | (with_reducible refine Kd.C_drewN ?_ _) | (with_reducible refine Kd.C_drew ?_))); (case aB => exact (by repeat (first | (with_reducible first | exact HB.out | apply below_alloc | apply pw_below_drewN | apply below_drew1) | exact HB.out))); (case aF => exact (fun _ _ => trivial)); (case aO => exact ((Kd.R_nil _ _ _ _ (fun _ => True)))); (case aS => exact (below_size (by repeat (first | (with_reducible first | exact HB.out | apply below_alloc | apply pw_below_drewN | apply below_drew1) | exact HB.out)))); (case aL => have := LMc2.out; omega); intro v102 w6 ho hb hg hat; rw [← Ny101.out] at ho; have n0_ := Aside0.mk (hb); have n1_ := Aside0.mk (ho); clear HB; have HB := n0_; have HO103 := n1_; clear n0_ n1_; clear ho hb hg hat) | ((with_reducible refine gate_dst (N := 8) rfl ?_); refine Kd.R_lit (Kd.int .u32) _ 31 ?hg (N := 8) ?hd (xs := ([77, 78, 79] : List Int)) (inner := [.int .u32 77, .int .u32 78, .int .u32 79]) (ok := fun _ => True) (okp := fun _ => True) ?hr ?hp (fun _ hk => hk) trivial (Below.refl _ _) (Nat.le_refl _) (by simp) ?_; (case hd => rfl); (case hg => rfl); (case hr => first | (go_simp; done) | (go_simp; rfl)); (case hp => exact (Reps.one (show Kd.M (Kd.int .u32) _ _ _ 77 [.int .u32 77] from rfl) (Reps.one (show Kd.M (Kd.int .u32) _ _ _ 78 [.int .u32 78] from rfl) (Reps.one (show Kd.M (Kd.int .u32) _ _ _ 79 [.int .u32 79] from rfl) (Reps.none _ _))))); intro v105 w7 ho8 hb hg_ hnew_; clear hg_ hnew_; (first | rw [← Ny104.out] at ho8 | (simp only [Int.reduceToNat] at ho8; rw [← Ny104.out] at ho8)); have n0_ := Aside0.mk (Kd.R_elder' (by (with_reducible repeat (first | apply Kd.R_alloc | apply Kd.R_drewN | apply Kd.R_drew)); exact HO103.out) (Kd.R_base ho8) hb); have n1_ := Aside0.mk (Kd.R_lower (Kd.R_new' ho8 (Kd.R_lt (by (with_reducible repeat (first | apply Kd.R_alloc | apply Kd.R_drewN | apply Kd.R_drew)); exact HO103.out))) (below_size (by repeat (first | (with_reducible first | exact HB.out | apply below_alloc | apply pw_below_drewN | apply below_drew1) | exact HB.out)))); have n2_ := Aside0.mk (below_step (by repeat (first | (with_reducible first | exact HB.out | apply below_alloc | apply pw_below_drewN | apply below_drew1) | exact HB.out)) hb); clear HO103; clear HB; have HO103 := n0_; have HO106 := n1_; have HB := n2_; clear n0_ n1_ n2_; clear hb ho8; obtain ⟨Ao10, co10, eo10⟩ := Kd.R_slice HO106.out; subst eo10) | ((with_reducible refine gate_builtin (b := .append) (xs := #[.tmp 7, .tmp 8]) rfl ?_); at_builtin; refine Kd.R_append_rows (Kd.int .u32) (w0 := w) w.heap.size rfl (.tmp 7) (.tmp 8) 22 31 (.int .u32 0) 4 rfl Try.underlying22 info31 rfl (by decide) (by omega) v102 y101 y104 _ _ _ (fun k_ => some k_ ≠ (.slice Ao10 y104.length co10 : Value).ownBlock) (fun _ => False) rfl rfl ?aO ?aR (fun _ _ h => h) (fun _ h => h.elim) ?aF ?aB ?aS ?aL ?_; (case aR => repeat (first | exact (Kd.R_reads' HO106.out).2.2 | (with_reducible refine Kd.C_alloc ?_ _) | (with_reducible refine Kd.C_drewN ?_ _) | (with_reducible refine Kd.C_drew ?_))); (case aB => exact (by repeat (first | (with_reducible first | exact HB.out | apply below_alloc | apply pw_below_drewN | apply below_drew1) | exact HB.out))); (case aF => exact (fun k_ hk => Kd.fresh' (Kd.R_lt (by (with_reducible repeat (first | apply Kd.R_alloc | apply Kd.R_drewN | apply Kd.R_drew)); exact HO106.out)) k_ hk)); (case aO => exact (by (with_reducible repeat (first | apply Kd.R_alloc | apply Kd.R_drewN | apply Kd.R_drew)); exact Kd.R_mono HO103.out (fun _ hk => hk.2))); (case aS => exact (below_size (by repeat (first | (with_reducible first | exact HB.out | apply below_alloc | apply pw_below_drewN | apply below_drew1) | exact HB.out)))); (case aL => have := LMc3.out; omega); intro v108 w9 ho hb hg hat; rw [← Ny107.out] at ho; have n0_ := Aside0.mk (Kd.R_after (ok := (fun _ => True)) (by (with_reducible repeat (first | apply Kd.R_alloc | apply Kd.R_drewN | apply Kd.R_drew)); exact HO106.out) hg hat); have n1_ := Aside0.mk (hb); have n2_ := Aside0.mk (ho); clear HO106; clear HB; clear HO103; have HO106 := n0_; have HB := n1_; have HO109 := n2_; clear n0_ n1_ n2_; clear ho hb hg hat; obtain ⟨Ao11, co11, eo11⟩ := Kd.R_slice HO109.out; subst eo11; have q12 : ((l0.length : Int) : Int) ≤ ((y107.length : Int) : Int) := of_decide_eq_true (by first | (with_reducible assumption) | assumption); obtain ⟨i012, hi012, _, hsz12, _⟩ := info_parts info31; have hcut12 := cut_to (P := Try.prog) 22 31 .i64 Try.underlying22 hi012 Ao11 y107.length co11 (l0.length : Int) (of_decide_eq_true (by first | (with_reducible assumption) | assumption)) q12 (Kd.R_reads' HO109.out).2.1; have hr12 := Kd.R_take (m := ((l0.length : Int) : Int).toNat) HO109.out (by omega); have hy12 : y110.length = ((l0.length : Int) : Int).toNat := (by rw [Ny110.out, List.length_take]; omega); rw [← Ny110.out] at hr12; rw [← hy12] at hr12 hcut12; clear hy12 hi012 hsz12; have HO112 := Aside0.mk hr12; clear hr12; replace q12 := eq_true q12))
          go_ret
          exact copied_end Ny101.out Ny104.out Ny107.out Ny110.out (Kd.R_mono HO109.out (fun _ _ => trivial)) HB.out
        · rw [if_neg c5] at H
          exact absurd H (by simp)
      · rw [if_neg c4] at H
        exact absurd H (by simp)
    · rw [if_neg c3] at H
      exact absurd H (by simp)
  · rw [if_neg c2] at H
    exact absurd H (by simp)
theorem cut_room {P : Program} (t e : TypeId) (kh : IntKind) {i : TypeInfo} (ht : P.underlying t = some (.slice e)) (hi : P.info? e = some i) (A : Option Addr) (n c : Nat) (j : Int) (h0 : 0 ≤ j) (hm : j ≤ c) :
    ∀ W : World, (Instr.slice t (.slice A n c) none (some (.int kh j)) none).run P W = .ok (.slice A j.toNat c) W := by
  intro W
  have hel : P.elem t = e := by simp [Program.elem, ht]
  have hu : P.underlying t = some (.slice (P.elem t)) := by rw [hel]; exact ht
  have ha : (A.map fun x => x.add 0) = A := by cases A <;> simp [Addr.add]
  rw [run_slice_h W t A n c hu kh j h0 (by omega), hel]
  simp [sizeOf, typeInfo, hi, sliced, Result.andThen, ha]
theorem room_rd (l : List Int) (n : Nat) (hn : n = l.length) : rd (l ++ [77, 78, 79]) (n : Int) = 77 ∧ rd (l ++ [77, 78, 79]) ((n + 1 : Nat) : Int) = 78 ∧ rd (l ++ [77, 78, 79]) ((n + 2 : Nat) : Int) = 79 := by
  subst hn
  have e1 : (l.length : Int).toNat = l.length := by omega
  have e2 : ((l.length + 1 : Nat) : Int).toNat = l.length + 1 := by omega
  have e3 : ((l.length + 2 : Nat) : Int).toNat = l.length + 2 := by omega
  refine ⟨?_, ?_, ?_⟩
  · rw [rd, e1]; simp
  · rw [rd, e2]; simp
  · rw [rd, e3]; simp
set_option maxHeartbeats 8000000 in
set_option maxRecDepth 100000 in
theorem kept_true (A : Option Addr) (cap : Nat) (l : List Int) (A1 : Option Addr) (c1 : Nat) (w : World) (hl : l.length ≤ 1048576)
    (hx : Kd.C (Kd.int .u32) w A (l.length + 3) (l ++ [77, 78, 79])) (hcap : l.length + 3 ≤ cap) (hr1 : Kd.C (Kd.int .u32) w A1 l.length l) (hc1 : l.length ≤ c1)
    (hxl : Kd.C (Kd.int .u32) w A l.length l) (hk : ∃ k, trammellaw01_same.f k l l = some true) :
    Calls Try.prog 19 #[.slice A l.length cap, .slice A1 l.length c1] w fun e w' => e = .returned (.bool true) ∧ Drawn0 w w' := by
  obtain ⟨k, hk⟩ := hk
  obtain ⟨n, hn⟩ : ∃ n, n = l.length := ⟨_, rfl⟩
  obtain ⟨ad, rfl, hc0⟩ := Kd.at_int hx (n : Int) (by omega) (by omega)
  obtain ⟨ad1, e1, hc1'⟩ := Kd.at_int hx ((n + 1 : Nat) : Int) (by omega) (by omega)
  obtain ⟨ad2, e2, hc2⟩ := Kd.at_int hx ((n + 2 : Nat) : Int) (by omega) (by omega)
  cases e1
  cases e2
  obtain ⟨r0, r1, r2⟩ := room_rd l n hn
  rw [r0, Int.toNat_natCast] at hc0
  rw [r1, Int.toNat_natCast] at hc1'
  rw [r2, Int.toNat_natCast] at hc2
  clear r0 r1 r2
  obtain ⟨i0, hi0, _, _, _⟩ := info_parts info31
  have hcut := cut_room (P := Try.prog) 22 31 .i64 Try.underlying22 hi0 (some ad) n cap ((n : Int) + 3) (by omega) (by omega)
  have hS := Aside0.mk (fun W => trammellaw01_same.calls k (some ad) cap l A1 c1 l true W)
  have HX := Aside0.mk hxl
  have HR := Aside0.mk hr1
  have HC := Aside0.mk hc1
  have HCAP := Aside0.mk (show l.length ≤ cap by omega)
  have HK := Aside0.mk hk
  have HN := Aside0.mk hn
  have hb : n ≤ 1048576 := by omega
  have hcap' : n + 3 ≤ cap := by omega
  clear hxl hr1 hc1 hk hx hi0 hl hcap
  rw [← hn] at *
  clear hn
  have ht : ((n : Int) + 3).toNat = n + 3 := by omega
  rw [ht] at hcut
  clear ht
  have hd1 : w.cell? { block := ad.block, off := ad.off + (n + 1) } = some (.int .u32 78) := by simpa [Addr.add] using hc1'
  have hd2 : w.cell? { block := ad.block, off := ad.off + (n + 2) } = some (.int .u32 79) := by simpa [Addr.add] using hc2
  go_enter Try.func19, Try.ntmps19
  go_wp2_with (go_at_call 17; refine (hS.out _ (by (with_reducible repeat (first | apply Kd.C_drewN | apply Kd.C_drew)); exact HX.out) HCAP.out (by (with_reducible repeat (first | apply Kd.C_drewN | apply Kd.C_drew)); exact HR.out) HC.out HK.out).mono ?_; rintro e w' ⟨rfl, ⟨⟨m, rfl⟩⟩⟩)
  go_ret
  exact ⟨rfl, by repeat (first | exact Drawn0.refl _ | apply Drawn0.step)⟩
theorem copied_some (l : List Int) (hl : l.length ≤ 1048576) : trammellaw01_copied.f l = some l := by
  unfold trammellaw01_copied.f
  rw [if_pos (by simp; omega)]
  simp only [Option.bind_some]
  rw [if_pos (by simp; omega), if_pos (by omega), if_pos (by simp; omega)]
  simp
theorem same_rounds (l : List Int) (hl : l.length ≤ 4611686018427387904) : ∃ k, trammellaw01_same.f k l l = some true := (same_f l l rfl hl).rounds
/-- what a copy in its own memory, with marked room behind it, reads as: it itself -/
theorem room_read {w : World} {base : Nat} {A : Option Addr} {cap : Nat} {l : List Int} (h : Kd.R (Kd.int .u32) 31 w base (fun _ => True) (.slice A (l.length + 3) cap) (l ++ [77, 78, 79])) :
    l.length ≤ cap ∧ Kd.C (Kd.int .u32) w A l.length l ∧ l.length + 3 ≤ cap ∧ Kd.C (Kd.int .u32) w A (l.length + 3) (l ++ [77, 78, 79]) := by
  have h1 := Kd.R_take (m := l.length) h (by simp)
  rw [List.take_left] at h1
  have h2 := Kd.R_reads' h1
  have h3 := Kd.R_reads' h
  have hl : (l ++ [77, 78, 79]).length = l.length + 3 := by simp
  rw [hl] at h3
  exact ⟨h2.2.1, h2.2.2, h3.2.1, h3.2.2⟩
theorem V_of {w : World} {base : Nat} {ok : Nat → Prop} {A : Option Addr} {cap : Nat} {l : List Int} (h : Kd.R (Kd.int .u32) 31 w base ok (.slice A (l.length + 3) cap) (l ++ [77, 78, 79])) :
    Kd.V (Kd.int .u32) 31 w w.heap.size (fun _ => True) (.slice A l.length cap) l := by
  have h1 := Kd.R_take (m := l.length) h (by simp)
  rw [List.take_left] at h1
  exact Kd.R_V (Kd.R_mono h1 (ok' := fun _ => True) (fun _ _ => trivial))
theorem sub_len {a b : List Int} (ha : Ok a) (hb : Ok b) {N : Nat} (h1 : a.length ≤ N) : (if val a < val b then (([] : List Int), (10 : Int)) else (lm (val a - val b), 0)).1.length ≤ N := by
  split
  · simp
  · refine lm_len_le (by omega) ?_
    have := val_lt ha
    have := val_nonneg hb
    have := Bp_le h1
    omega
end Go.Proofs.Ytnlkafjhbjlhaaa.PA
