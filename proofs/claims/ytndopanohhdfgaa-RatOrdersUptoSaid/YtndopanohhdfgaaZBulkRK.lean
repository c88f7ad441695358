/- What a row gives of an argument that is a rational: two numbers; no further condition. -/
import Derived.ChangeSlices
import Derived.ChangeSame
import Derived.RowKit
import Derived.Test.YtndopanohhdfgaaRows
import Derived.Test.YtndopanohhdfgaaZDK
namespace Go.Proofs.Ytndopanohhdfgaa.bulks
open Go.ChangeShapes Go.WideShapes Go.ChangeAt Go.RowKit
theorem num_cells {H : Type} {enc : TypeId × Value → H} {P : Program} {W : World} {held : Bool} {t e : TypeId} {f0 f1 : Field} {x y : Value} {n : Nat} {q : DataW H × List MemPlace}
    (hu : P.underlying t = some (.struct #[f0, f1])) (h0 : f0.offset = 0) (h1 : f1.offset = 1) (c0 : P.cellsOf f0.type = 1) (c1 : P.cellsOf f1.type = 1)
    (u0 : P.underlying f0.type = some .bool) (u1 : P.underlying f1.type = some (.slice e)) (he : P.underlying e = some (.int .u32)) (hc : P.cellsOf e = 1)
    (hf : DataW.trod enc P W 0 (fun _ => true) held n t [x, y] = some q) :
    ∃ (b : Bool) (a : Option Addr) (len cap : Nat) (zs : List Int), x = .bool b ∧ y = .slice a len cap ∧ IsRow .u32 W a len cap zs ∧ len ≤ Rows.uptoBulk q.1 := by
  obtain ⟨y0, y1, n, hx, hl, hp0, hp1⟩ := trod_struct2 hu hf
  have e0 : ([x, y].drop f0.offset).take (P.cellsOf f0.type) = [x] := by rw [h0, c0]; rfl
  have e1 : ([x, y].drop f1.offset).take (P.cellsOf f1.type) = [y] := by rw [h1, c1]; rfl
  rw [e0] at hp0
  rw [e1] at hp1
  obtain ⟨b, hb, -⟩ := DataW.trod_bool u0 hp0
  injection hb with hb
  subst hb
  subst hx
  have hle : Rows.uptoBulk y1.1 ≤ Rows.uptoBulk (.agg [y0.1, y1.1]) := by
    simp [Rows.uptoBulk, Rows.uptoBulkAll]
    omega
  rcases open_ints u1 he hc hp1 with ⟨hcs, _⟩ | ⟨ad, len, cap, zs, hcs, _, hl2, hm, hz, hx2, hcell, hwz⟩
  · injection hcs with hcs
    subst hcs
    exact ⟨b, none, 0, 0, [], rfl, rfl, .inl ⟨rfl, rfl, rfl, rfl⟩, Nat.zero_le _⟩
  · injection hcs with hcs
    subst hcs
    refine ⟨b, some ad, len, cap, zs, rfl, rfl, .inr ⟨ad, rfl, hl2, hm, by simpa using hz, hcell, hwz⟩, Nat.le_trans ?_ hle⟩
    rw [hx2]
    have h3 := slice_le (H := H) (lits .u32 (zs.take len)) (lits .u32 (zs.drop len))
    have h4 : (lits (H := H) .u32 (zs.take len)).length + (lits (H := H) .u32 (zs.drop len)).length = zs.length := by
      simp [lits]
      omega
    have h5 : len ≤ zs.length := by
      have : zs.length = cap := by simpa using hz
      omega
    show len ≤ Rows.uptoBulk (.slice (lits .u32 (zs.take len)) (lits .u32 (zs.drop len)))
    omega
theorem open_rat {H : Type} {enc : TypeId × Value → H} {P : Program} {W : World} {r : Reach} {bs : Nat} {held : Bool} {T e : TypeId} {F0 F1 f0 f1 : Field} {v : Value} {d : DataW H} {ps : List MemPlace}
    (hU : P.underlying T = some (.struct #[F0, F1])) (H0 : F0.offset = 0) (H1 : F1.offset = 2) (HT : F1.type = F0.type) (C0 : P.cellsOf F0.type = 2) (CT : P.cellsOf T = 4)
    (hu : P.underlying F0.type = some (.struct #[f0, f1])) (h0 : f0.offset = 0) (h1 : f1.offset = 1) (c0 : P.cellsOf f0.type = 1) (c1 : P.cellsOf f1.type = 1)
    (u0 : P.underlying f0.type = some .bool) (u1 : P.underlying f1.type = some (.slice e)) (he : P.underlying e = some (.int .u32)) (hc : P.cellsOf e = 1)
    (hval : Value.okWide P W r bs T v) (h : DataW.Trod enc P W 0 (fun _ => true) held T v d ps) :
    ∃ (b : Bool) (a : Option Addr) (len cap : Nat) (zs : List Int) (b' : Bool) (a' : Option Addr) (len' cap' : Nat) (zs' : List Int), v = .agg #[.bool b, .slice a len cap, .bool b', .slice a' len' cap'] ∧ IsRow .u32 W a len cap zs ∧ len ≤ Rows.uptoBulk d ∧ IsRow .u32 W a' len' cap' zs' ∧ len' ≤ Rows.uptoBulk d := by
  obtain ⟨cs, rfl, hs⟩ := okWide_struct hU hval
  obtain ⟨fuel, hf⟩ := h
  obtain ⟨y0, y1, n, hx, hl, hp0, hp1⟩ := trod_struct2 hU hf
  rw [CT] at hs
  obtain ⟨x, y, z, u, rfl⟩ : ∃ x y z u, cs = #[x, y, z, u] := by
    obtain ⟨l⟩ := cs
    match l, hs with
    | [x, y, z, u], _ => exact ⟨x, y, z, u, rfl⟩
  have e0 : ((Value.cells (.agg #[x, y, z, u])).toList.drop F0.offset).take (P.cellsOf F0.type) = [x, y] := by rw [H0, C0]; rfl
  have e1 : ((Value.cells (.agg #[x, y, z, u])).toList.drop F1.offset).take (P.cellsOf F1.type) = [z, u] := by rw [H1, HT, C0]; rfl
  rw [e0] at hp0
  rw [e1, HT] at hp1
  obtain ⟨hd, -⟩ := Prod.mk.inj hx
  subst hd
  have hle0 : Rows.uptoBulk y0.1 ≤ Rows.uptoBulk (.agg [y0.1, y1.1]) := by
    simp [Rows.uptoBulk, Rows.uptoBulkAll]
    omega
  have hle1 : Rows.uptoBulk y1.1 ≤ Rows.uptoBulk (.agg [y0.1, y1.1]) := by
    simp [Rows.uptoBulk, Rows.uptoBulkAll]
    omega
  obtain ⟨b, a, len, cap, zs, rfl, rfl, hr, hb⟩ := num_cells hu h0 h1 c0 c1 u0 u1 he hc hp0
  obtain ⟨b', a', len', cap', zs', rfl, rfl, hr', hb'⟩ := num_cells hu h0 h1 c0 c1 u0 u1 he hc hp1
  exact ⟨b, a, len, cap, zs, b', a', len', cap', zs', rfl, hr, Nat.le_trans hb hle0, hr', Nat.le_trans hb' hle1⟩
end Go.Proofs.Ytndopanohhdfgaa.bulks

