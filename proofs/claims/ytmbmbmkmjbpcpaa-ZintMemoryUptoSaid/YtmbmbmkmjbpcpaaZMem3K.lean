/- The walks of room and quiet. -/
import Derived.Outline
import Derived.Test.YtmbmbmkmjbpcpaaZMem2K
import Derived.Test.YtmbmbmkmjbpcpaaPAx0K
namespace Go.Proofs.Ytmbmbmkmjbpcpaa.PA
open Go Go.Proofs.Ytmbmbmkmjbpcpaa.Nums Go.RowKit Go.Proofs.YtmbmbmkmjbpcpaaW.PrintWords Go.Proofs.YtmbmbmkmjbpcpaaW.PrintLast Go.Proofs.YtmbmbmkmjbpcpaaW.PrintMore
set_option linter.unusedVariables false
set_option linter.unusedSimpArgs false
/-- the marks behind a number's limbs -/
def mks (j : Nat) : List Int := (List.range j).map (fun i : Nat => 700 + (i : Int))
theorem mk_succ (j : Nat) : mks (j + 1) = mks j ++ [700 + (j : Int)] := by unfold mks; rw [List.range_succ, List.map_append]; rfl
theorem mk_len (j : Nat) : (mks j).length = j := by simp [mks]
/-- a row of the call's own, l with marks behind it -/
structure Rm (w W1 W : World) (l : List Int) (u : Value) (j : Nat) : Prop where
  bel : Below W1.heap.size W1 W
  row : Kd.R (Kd.int .u32) 68 W W1.heap.size (fun _ => True) u (l ++ mks j)
  old : Below w.heap.size w W1
theorem mark_x {j : Nat} (h : j ≤ 40) : IntKind.u32.wrap (wrap64 ((700) + (((j : Nat) : Int)))) = 700 + (j : Int) := by
  rw [w64 (by omega) (by omega)]
  unfold IntKind.wrap
  first | (simp [IntKind.signed, IntKind.bits]; omega) | (simp; omega)
section
variable {w W1 W : World} {l : List Int} {j : Nat} {u : Value} {ops : Array Oper} {o oA oB : Oper} {r : List Oper} {Q : Exit → Act → World → Prop} {a : Act} {p s t : Operand}
theorem seq_appR (Z : Rm w W1 W l u j) {x : Int} (hx : x = 700 + (j : Int)) (hl : l.length ≤ 1048576 ∧ j ≤ 40) (hgB : oB.guard = none) (hgA : oA.guard = none) (hoB : oB.op = .buildSlice 23 1 #[(0, p)]) (he : a.eval p = .int .u32 x)
    (hoA : oA.op = .call { callee := .builtin .append, args := #[s, t], argTypes := #[23, 23] }) (hs : (a.put oB.dst (.slice (some ⟨W.heap.size, 0, none⟩) 1 1)).eval s = u) (ht : (a.put oB.dst (.slice (some ⟨W.heap.size, 0, none⟩) 1 1)).eval t = .slice (some ⟨W.heap.size, 0, none⟩) 1 1)
    (hk : ∀ (h : Nat) (u1 : Sl) W', Rm w W1 W' l u1.v (j + 1) → wpList Try.prog ops Q r ((a.put oB.dst (.slice (some ⟨h, 0, none⟩) 1 1)).put oA.dst u1.v) W') : wpList Try.prog ops Q (oB :: oA :: r) a W := by
  subst hx
  refine list_op hgB (wp_run (run_rowU1 hoB he) ?_)
  have hbel := below_alloc (Below.refl W.heap.size W) (.cells #[.int .u32 (700 + (j : Int))] 68 (0, 0))
  have hbW : W1.heap.size ≤ W.heap.size := Z.bel.size
  have hr1 := Kd.R_below Z.row hbel
  have hcell : (W.alloc (.cells #[.int .u32 (700 + (j : Int))] 68 (0, 0))).cell? ⟨W.heap.size, 0, none⟩ = some (.int .u32 (700 + (j : Int))) := blk_cell (blk_new W _) 0
  obtain ⟨u1, W2, hrun, hr2, hsp, hb2, hat⟩ := run_appU (ty := oA.type) hr1 (by rw [List.length_append, mk_len]; omega) (Nat.le_trans hbW hbel.size) hcell
  rw [List.append_assoc, ← mk_succ] at hr2
  obtain ⟨A1, c1, rfl⟩ := Kd.R_slice hr2
  have hex : (execOp (a.put oB.dst (.slice (some ⟨W.heap.size, 0, none⟩) 1 1)).eval oA).run Try.prog (W.alloc (.cells #[.int .u32 (700 + (j : Int))] 68 (0, 0))) = .ok (.value (.slice A1 (l ++ mks (j + 1)).length c1)) W2 := by
    unfold execOp
    simp [hoA, resolve, invoke, builtin, hs, ht, hrun, Result.andThen]
  refine list_op hgA (wp_run hex ?_)
  exact hk W.heap.size ⟨A1, _, c1⟩ W2 ⟨(Z.bel.trans (hbel.mono hbW)).trans hb2, hr2, Z.old⟩
theorem seq_app0 {ts : List (Value × (World → Value → Prop))} {bs : List (Nat × TypeId × Array Value)} {A : Option Addr} {c : Nat} (Z : Zt w W ts bs) (hl : l.length ≤ 1048576) (hC : Kd.C (Kd.int .u32) W A l.length l) (hg : o.guard = none) (ho : o.op = .call { callee := .builtin .append, args := #[s, t], argTypes := #[23, 23] }) (hs : a.eval s = .slice none 0 0) (ht : a.eval t = .slice A l.length c)
    (hk : ∀ W1 (u : Sl) W', Rm w W1 W' l u.v 0 → wpList Try.prog ops Q r (a.put o.dst u.v) W') : wpList Try.prog ops Q (o :: r) a W := by
  refine Kd.R_append_rows (Kd.int .u32) (w0 := W) W.heap.size hg s t 23 68 (.int .u32 0) 4 ho Try.underlying23 info68 rfl (by decide) (by omega) (.slice none 0 0) ([] : List Int) l _ _ _ (fun _ => True) (fun _ => False) hs ht (Kd.R_nil _ _ _ _ (fun _ => True)) hC (fun _ _ h => h) (fun _ h => h.elim) (fun _ _ => trivial) (Below.refl _ _) (Nat.le_refl _) (by simp; omega) ?_
  intro v2 W2 ho2 hb hg2 hat
  obtain ⟨A2, n2, rfl⟩ := Kd.R_slice ho2
  exact hk W ⟨A2, _, n2⟩ W2 ⟨hb, by simpa [mks] using ho2, Z.below⟩
/-- a call's end: a row of its own -/
def ResL (w : World) (l : List Int) (e : Ending) (w' : World) : Prop := ∃ v, e = .returned v ∧ Kd.R (Kd.int .u32) 68 w' w.heap.size (fun _ => True) v l ∧ Below w.heap.size w w'
def spL (w0 : World) (l : List Int) : Sp := .val Sl (fun x => x.v) (fun x => [(x.v, tyO w0 l)])
theorem Zt.callL {w0 : World} {P : Program} {f : FuncId} {args : Array Value} {ts : List (Value × (World → Value → Prop))} {bs : List (Nat × TypeId × Array Value)} (Z : Zt w0 w ts bs) (h : Calls P f args w (ResL w l)) : Calls P f args w fun e W' => ∃ v, e = .returned v ∧ Below w.heap.size w W' ∧ (spL w0 l).New w0 w W' v :=
  h.mono fun _ _ ⟨v, he, hr, hb⟩ => by
    have ho := has_row hr Z.below.size
    obtain ⟨A, c, rfl, -, -⟩ := Rd.of_row hr
    exact ⟨_, he, hb, ⟨A, _, c⟩, rfl, ho⟩
theorem Rm.ends {fn : Func} {d : Tmp} {v : Value} (Z : Rm w W1 W l v j) (hj : j = 40) (h : fn.results = #[.tmp d]) (hd : a.defers = []) (hp : a.tmps.getD d undef = v) : bodyPost Try.prog fn (ResL w (l ++ mks 40)) .ret a W := by
  subst hj
  refine bodyPost_ret (v := a.tmps.getD d undef) ?_ hd ⟨v, by rw [hp], Kd.R_lower Z.row Z.old.size, Z.old.trans (Z.bel.mono Z.old.size)⟩
  have hp' : a.tmps[d]?.getD undef = v := by simpa using hp
  rw [hp]
  unfold results
  rw [h]
  go_simp
end
set_option maxHeartbeats 4000000 in
set_option maxRecDepth 100000 in
theorem room_walk {w : World} {b1 : Bool} {v1 : Value} {l1 : List Int} (m1 : Rd w v1 l1) (hl : l1.length ≤ 1048576) : Calls Try.prog 65 #[.agg #[.bool b1, v1]] w (ResL w (l1 ++ mks 40)) := by
  obtain ⟨A1, c1, rfl, hc1, hC1⟩ := id m1
  have Z := Zt.start w m1.has
  clear hC1
  go_enter Try.func65, Try.ntmps65
  refine wp_seq ?_
  refine wp_region_list ?_
  refine seq_box Z rfl rfl rfl ?_; clear Z; intro g1 W Z
  (try simp only [Act.put, List.setIfInBounds_toArray, List.set_cons_zero, List.set_cons_succ])
  refine seq_is (v := .slice none 0 0) rfl (run_assign rfl rfl) ?_
  (try simp only [Act.put, List.setIfInBounds_toArray, List.set_cons_zero, List.set_cons_succ])
  show Code.wp _ _ _ _ _
  refine wp_seq ?_
  refine wp_region_list ?_
  refine seq_is (v := .slice none 0 0) rfl (run_assign rfl rfl) ?_
  (try simp only [Act.put, List.setIfInBounds_toArray, List.set_cons_zero, List.set_cons_succ])
  show Code.wp _ _ _ _ _
  refine wp_seq ?_
  refine wp_region_list ?_
  refine seq_is (v := .slice none 0 0) rfl (run_move rfl rfl) ?_
  (try simp only [Act.put, List.setIfInBounds_toArray, List.set_cons_zero, List.set_cons_succ])
  refine seq_is (v := .pointer (some ⟨g1, 1, none⟩)) rfl (run_field1 rfl rfl) ?_
  (try simp only [Act.put, List.setIfInBounds_toArray, List.set_cons_zero, List.set_cons_succ])
  refine seq_is (v := .slice A1 l1.length c1) rfl (run_loadM rfl rfl (Z.bx 0 rfl)) ?_
  (try simp only [Act.put, List.setIfInBounds_toArray, List.set_cons_zero, List.set_cons_succ])
  obtain ⟨A', c', e', -, hC⟩ := Z.rd 0 rfl
  injection e' with e1 e2 e3
  subst e1
  refine seq_app0 Z hl hC rfl rfl rfl rfl ?_; clear Z hC; intro W1 u0 W Z
  (try simp only [Act.put, List.setIfInBounds_toArray, List.set_cons_zero, List.set_cons_succ])
  refine seq_is (v := u0.v) rfl (run_assign rfl rfl) ?_
  (try simp only [Act.put, List.setIfInBounds_toArray, List.set_cons_zero, List.set_cons_succ])
  show Code.wp _ _ _ _ _
  refine wp_seq ?_
  refine wp_seq ?_
  refine wp_region_list ?_
  refine seq_is (v := .int .i64 (0)) rfl (run_assign rfl rfl) ?_
  (try simp only [Act.put, List.setIfInBounds_toArray, List.set_cons_zero, List.set_cons_succ])
  show Code.wp _ _ _ _ _
  refine wp_block ?_
  refine wp_loop_s (α := Nat × Sl) (fun (j, u) a W => ∃ (j9_4 j10_4 j11_4 j12_4 j13_4 j14_4 j15_4 j16_4 j17_4 j18_4 : Value), a = { tmps := #[.agg #[.bool (b1), .slice A1 l1.length c1], .pointer (some ⟨g1, 0, none⟩), .slice none 0 0, u.v, .int .i64 ((j : Nat) : Int), .slice none 0 0, .pointer (some ⟨g1, 1, none⟩), .slice A1 l1.length c1, u0.v, j9_4, j10_4, j11_4, j12_4, j13_4, j14_4, j15_4, j16_4, j17_4, j18_4, undef], defers := [] } ∧ Rm w W1 W l1 u.v j ∧ (j ≤ 40)) (fun (j, u) => 40 - j) (0, u0) ⟨_, _, _, _, _, _, _, _, _, _, rfl, Z, (by omega)⟩ ?_
  clear Z; rintro ⟨j, u⟩ a W ⟨j9_4, j10_4, j11_4, j12_4, j13_4, j14_4, j15_4, j16_4, j17_4, j18_4, rfl, Z, hI⟩
  refine wp_seq ?_
  refine wp_seq ?_
  refine wp_region_list ?_
  refine seq_is (v := .int .i64 ((j : Nat) : Int)) rfl (run_move rfl rfl) ?_
  (try simp only [Act.put, List.setIfInBounds_toArray, List.set_cons_zero, List.set_cons_succ])
  refine seq_is (v := .bool (decide ((((j : Nat) : Int)) < (40)))) rfl (run_lss rfl rfl rfl) ?_
  (try simp only [Act.put, List.setIfInBounds_toArray, List.set_cons_zero, List.set_cons_succ])
  show Code.wp _ _ _ _ _
  refine wp_cond_split (t := decide ((((j : Nat) : Int)) < (40))) rfl ?_ ?_
  · intro hc2
    have p_hc2 := of_decide_eq_true hc2
    refine wp_skip ?_
    show Code.wp _ _ _ _ _
    refine wp_seq ?_
    refine wp_block ?_
    refine wp_region_list ?_
    refine seq_is (v := u.v) rfl (run_move rfl rfl) ?_
    (try simp only [Act.put, List.setIfInBounds_toArray, List.set_cons_zero, List.set_cons_succ])
    refine seq_is (v := .int .i64 ((j : Nat) : Int)) rfl (run_move rfl rfl) ?_
    (try simp only [Act.put, List.setIfInBounds_toArray, List.set_cons_zero, List.set_cons_succ])
    refine seq_is (v := .int .i64 (wrap64 ((700) + (((j : Nat) : Int))))) rfl (run_add rfl rfl rfl) ?_
    (try simp only [Act.put, List.setIfInBounds_toArray, List.set_cons_zero, List.set_cons_succ])
    refine seq_is (v := .int .u32 (IntKind.u32.wrap (wrap64 ((700) + (((j : Nat) : Int)))))) rfl (run_convIU rfl rfl) ?_
    (try simp only [Act.put, List.setIfInBounds_toArray, List.set_cons_zero, List.set_cons_succ])
    refine seq_appR Z (mark_x (by omega)) (by omega) rfl rfl rfl rfl rfl rfl rfl ?_; clear Z; intro h u1 W Z
    (try simp only [Act.put, List.setIfInBounds_toArray, List.set_cons_zero, List.set_cons_succ])
    refine seq_is (v := u1.v) rfl (run_assign rfl rfl) ?_
    (try simp only [Act.put, List.setIfInBounds_toArray, List.set_cons_zero, List.set_cons_succ])
    show Code.wp _ _ _ _ _
    refine wp_region_list ?_
    refine seq_is (v := .int .i64 ((j : Nat) : Int)) rfl (run_move rfl rfl) ?_
    (try simp only [Act.put, List.setIfInBounds_toArray, List.set_cons_zero, List.set_cons_succ])
    refine seq_is (v := .int .i64 ((j + 1 : Nat) : Int)) rfl (run_inc rfl rfl (by omega)) ?_
    (try simp only [Act.put, List.setIfInBounds_toArray, List.set_cons_zero, List.set_cons_succ])
    refine seq_is (v := .int .i64 ((j + 1 : Nat) : Int)) rfl (run_assign rfl rfl) ?_
    (try simp only [Act.put, List.setIfInBounds_toArray, List.set_cons_zero, List.set_cons_succ])
    exact ⟨(j + 1, u1), (show 40 - (j + 1) < 40 - j by omega), _, _, _, _, _, _, _, _, _, _, rfl, Z, (by omega)⟩
  · intro hc2
    have p_hc2 := of_decide_eq_false hc2
    refine wp_exit ?_
    show Code.wp _ _ _ _ _
    refine wp_seq ?_
    refine wp_region_list ?_
    refine seq_is (v := u.v) rfl (run_move rfl rfl) ?_
    (try simp only [Act.put, List.setIfInBounds_toArray, List.set_cons_zero, List.set_cons_succ])
    refine seq_is (v := u.v) rfl (run_assign rfl rfl) ?_
    (try simp only [Act.put, List.setIfInBounds_toArray, List.set_cons_zero, List.set_cons_succ])
    show Code.wp _ _ _ _ _
    refine wp_ret ?_
    exact Z.ends (by omega) rfl rfl rfl
theorem eq_selfL {w : World} {b : Bool} {v1 v2 : Value} {l : List Int} (m1 : Rd w v1 l) (m2 : Rd w v2 l) (hl : l.length ≤ 2000000) : Calls Try.prog 16 #[.agg #[.bool b, v1], .agg #[.bool b, v2]] w (RetV w (.bool true)) := by
  have h := trammellaw02_eq.sem (b1 := b) (b2 := b) m1 m2 (by omega)
  simpa using h
set_option maxHeartbeats 4000000 in
set_option maxRecDepth 100000 in
theorem quiet_walk {w : World} {b1 : Bool} {v1 v2 : Value} {l1 : List Int} (m2 : Rd w v2 (l1 ++ mks 40)) (m1 : Rd w v1 l1) (hl : l1.length ≤ 1048576) : Calls Try.prog 67 #[v2, .agg #[.bool b1, v1]] w (RetV w (.bool true)) := by
  obtain ⟨A1, c1, rfl, hc1, hC1⟩ := id m1
  obtain ⟨A2, c2, rfl, hc2, hC2⟩ := id m2
  have Z := Zt.start w (m2.has.append m1.has)
  clear hC1 hC2
  go_enter Try.func67, Try.ntmps67
  refine wp_seq ?_
  refine wp_region_list ?_
  refine seq_box Z rfl rfl rfl ?_; clear Z; intro g1 W Z
  (try simp only [Act.put, List.setIfInBounds_toArray, List.set_cons_zero, List.set_cons_succ])
  refine seq_is (v := .bool (false)) rfl (run_assign rfl rfl) ?_
  (try simp only [Act.put, List.setIfInBounds_toArray, List.set_cons_zero, List.set_cons_succ])
  show Code.wp _ _ _ _ _
  refine wp_seq ?_
  refine wp_region_list ?_
  refine seq_is (v := .slice A2 (l1 ++ mks 40).length c2) rfl (run_move rfl rfl) ?_
  (try simp only [Act.put, List.setIfInBounds_toArray, List.set_cons_zero, List.set_cons_succ])
  refine seq_is (v := .agg #[.bool (false), .slice A2 (l1 ++ mks 40).length c2]) rfl (run_build1 rfl rfl) ?_
  (try simp only [Act.put, List.setIfInBounds_toArray, List.set_cons_zero, List.set_cons_succ])
  refine seq_is (v := .agg #[.bool (b1), .slice A1 l1.length c1]) rfl (run_load2 rfl rfl (Z.bx 0 rfl)) ?_
  (try simp only [Act.put, List.setIfInBounds_toArray, List.set_cons_zero, List.set_cons_succ])
  refine seq_call Z rfl rfl Try.func65 rfl rfl (args1 rfl) (Z.callL (room_walk (Z.rd 1 rfl) hl)) ?_; clear Z; intro x2 W Z
  (try simp only [Act.put, List.setIfInBounds_toArray, List.set_cons_zero, List.set_cons_succ])
  refine seq_is (v := .agg #[.bool (false), x2.v]) rfl (run_build1 rfl rfl) ?_
  (try simp only [Act.put, List.setIfInBounds_toArray, List.set_cons_zero, List.set_cons_succ])
  refine seq_call Z rfl rfl Try.func16 rfl rfl (args2 rfl rfl) (Z.callV (eq_selfL (Z.rd 1 rfl) (Z.rdO 0 rfl) (by rw [List.length_append, mk_len]; omega))) ?_; clear Z; intro x3 W Z
  (try simp only [Act.put, List.setIfInBounds_toArray, List.set_cons_zero, List.set_cons_succ])
  refine seq_is (v := .bool (true)) rfl (run_assign rfl rfl) ?_
  (try simp only [Act.put, List.setIfInBounds_toArray, List.set_cons_zero, List.set_cons_succ])
  show Code.wp _ _ _ _ _
  refine wp_ret ?_
  exact Z.endsV rfl rfl rfl rfl
end Go.Proofs.Ytmbmbmkmjbpcpaa.PA

