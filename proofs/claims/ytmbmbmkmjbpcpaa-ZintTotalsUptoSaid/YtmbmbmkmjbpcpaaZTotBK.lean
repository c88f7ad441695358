/- A row of numbers that comes in: what the bound of an Upto statement gives. -/
import Derived.Outline
import Derived.WalkKit
import Derived.ProofKit
import Derived.OpenShut
import Derived.ChangeSlices
import Derived.ChangeSame
import Derived.DataElems
import Derived.Test.YtmbmbmkmjbpcpaaRows
import Derived.Test.YtmbmbmkmjbpcpaaZTotPK
import Derived.Test.YtmbmbmkmjbpcpaaZDK
namespace Go.Proofs.Ytmbmbmkmjbpcpaa.bulks
open Go.ChangeShapes Go.WideShapes Go.ChangeAt Go.RowKit
/-- a struct's cells, as they are read out of memory -/
theorem open_num_cells {H : Type} {enc : TypeId × Value → H} {P : Program} {W : World} {held : Bool} {t e : TypeId} {f0 f1 : Field} {cs : List Value} {x : DataW H × List MemPlace} {fuel : Nat}
    (hu : P.underlying t = some (.struct #[f0, f1])) (h0 : f0.offset = 0) (h1 : f1.offset = 1) (c0 : P.cellsOf f0.type = 1) (c1 : P.cellsOf f1.type = 1) (ct : P.cellsOf t = 2)
    (u0 : P.underlying f0.type = some .bool) (u1 : P.underlying f1.type = some (.slice e)) (he : P.underlying e = some (.int .u32)) (hc : P.cellsOf e = 1)
    (hf : DataW.trod enc P W 0 (fun _ => true) held fuel t cs = some x) :
    ∃ (b : Bool) (a : Option Addr) (len cap : Nat) (zs : List Int), cs = [.bool b, .slice a len cap] ∧ IsRow .u32 W a len cap zs ∧ len ≤ Rows.uptoBulk x.1 := by
  obtain ⟨y0, y1, n, hx, hl, hp0, hp1⟩ := trod_struct2 hu hf
  rw [ct] at hl
  obtain ⟨x0, y, rfl⟩ : ∃ x y, cs = [x, y] := by
    match cs, hl with
    | [x, y], _ => exact ⟨x, y, rfl⟩
  have e0 : (([x0, y] : List Value).drop f0.offset).take (P.cellsOf f0.type) = [x0] := by rw [h0, c0]; rfl
  have e1 : (([x0, y] : List Value).drop f1.offset).take (P.cellsOf f1.type) = [y] := by rw [h1, c1]; rfl
  rw [e0] at hp0
  rw [e1] at hp1
  obtain ⟨b, hb, -⟩ := DataW.trod_bool u0 hp0
  injection hb with hb
  subst hb
  have hle : Rows.uptoBulk y1.1 ≤ Rows.uptoBulk x.1 := by
    rw [hx]
    simp [Rows.uptoBulk, Rows.uptoBulkAll]
    omega
  rcases open_ints u1 he hc hp1 with ⟨hcs, _⟩ | ⟨ad, len, cap, zs, hcs, _, hl2, hm, hz, hx2, hcell, hwz⟩
  · injection hcs with hcs
    subst hcs
    exact ⟨b, none, 0, 0, [], rfl, .inl ⟨rfl, rfl, rfl, rfl⟩, Nat.zero_le _⟩
  · injection hcs with hcs
    subst hcs
    refine ⟨b, some ad, len, cap, zs, rfl, .inr ⟨ad, rfl, hl2, hm, by simpa using hz, hcell, hwz⟩, Nat.le_trans ?_ hle⟩
    subst hx2
    have h3 := slice_le (H := H) (lits .u32 (zs.take len)) (lits .u32 (zs.drop len))
    have h4 : (lits (H := H) .u32 (zs.take len)).length + (lits (H := H) .u32 (zs.drop len)).length = zs.length := by
      simp [lits]
      omega
    have h5 : len ≤ zs.length := by
      have : zs.length = cap := by simpa using hz
      omega
    show len ≤ Rows.uptoBulk (.slice (lits .u32 (zs.take len)) (lits .u32 (zs.drop len)))
    omega
theorem all_le {H : Type} (l r : List (DataW H)) : Rows.uptoBulkAll l ≤ Rows.uptoBulk (.slice l r) := by
  simp only [Rows.uptoBulk]
  omega
/-- a row of such structs -/
theorem open_nums {H : Type} {enc : TypeId × Value → H} {P : Program} {W : World} {held : Bool} {s t e : TypeId} {f0 f1 : Field} {a : Option Addr} {len cap : Nat} {d : DataW H} {ps : List MemPlace} {ds : List (DataW H)}
    (hk : Rows.uptoSmall H ds = true) (hd : d ∈ ds)
    (hs : P.underlying s = some (.slice t)) (hu : P.underlying t = some (.struct #[f0, f1])) (h0 : f0.offset = 0) (h1 : f1.offset = 1) (c0 : P.cellsOf f0.type = 1) (c1 : P.cellsOf f1.type = 1) (ct : P.cellsOf t = 2)
    (u0 : P.underlying f0.type = some .bool) (u1 : P.underlying f1.type = some (.slice e)) (he : P.underlying e = some (.int .u32)) (hc : P.cellsOf e = 1)
    (h : DataW.Trod enc P W 0 (fun _ => true) held s (.slice a len cap) d ps) :
    len ≤ 1048576 ∧ len ≤ cap ∧ (0 < len → ∃ x, a = some x ∧ ∀ i, i < len → ∃ (b : Bool) (A : Option Addr) (l c : Nat) (zs : List Int), W.cell? (x.add (i * 2)) = some (.bool b) ∧ W.cell? (x.add (i * 2 + 1)) = some (.slice A l c) ∧ IsRow .u32 W A l c zs ∧ l ≤ 1048576) := by
  obtain ⟨fuel, hf⟩ := h
  have hb1 := part_le hd
  have hb2 := bound hk
  rcases DataW.trod_slice hs hf with ⟨hcs, _⟩ | ⟨x, len', cap', elems, rest, n, _, hcs, hx, hb, hl, hm, hlen, hel, -, -⟩
  · simp [Value.cells] at hcs
    obtain ⟨rfl, rfl, rfl⟩ := hcs
    exact ⟨Nat.zero_le _, Nat.le_refl _, fun h => absurd h (by omega)⟩
  · simp [Value.cells] at hcs
    obtain ⟨rfl, rfl, rfl⟩ := hcs
    have hd1 : d = .slice (elems.map (·.1)) (rest.map (·.1)) := (Prod.mk.inj hx).1
    subst hd1
    have h3 := slice_le (H := H) (elems.map (·.1)) (rest.map (·.1))
    have h5 := all_le (H := H) (elems.map (·.1)) (rest.map (·.1))
    simp only [List.length_map] at h3
    refine ⟨by omega, hl, fun _ => ⟨x, rfl, fun i hi => ?_⟩⟩
    have hy : elems[i]? = some (elems[i]'(by omega)) := List.getElem?_eq_getElem (by omega)
    have he' := hel i hi
    rw [hy, ct, Option.bind_eq_some_iff] at he'
    obtain ⟨cs, hc2, ht⟩ := he'
    obtain ⟨b, A, l, c, zs, rfl, hr, hle⟩ := open_num_cells hu h0 h1 c0 c1 ct u0 u1 he hc ht
    obtain ⟨-, -, hcell⟩ := World.cells?_some hc2
    have k0 := hcell 0 (by omega)
    have k1 := hcell 1 (by omega)
    have hmem : (elems[i]'(by omega)).1 ∈ elems.map (·.1) := List.mem_map.mpr ⟨_, List.getElem_mem _, rfl⟩
    have h6 := part_le hmem
    rw [Addr.add_add, Nat.add_zero] at k0
    rw [Addr.add_add] at k1
    exact ⟨b, A, l, c, zs, k0, k1, hr, by omega⟩
end Go.Proofs.Ytmbmbmkmjbpcpaa.bulks
namespace Go.Proofs.Ytmbmbmkmjbpcpaa.PT
open Go Go.Proofs.Ytmbmbmkmjbpcpaa.Nums Go.RowKit Go.Proofs.YtmbmbmkmjbpcpaaW.PrintWords Go.Proofs.YtmbmbmkmjbpcpaaW.PrintLast Go.Proofs.YtmbmbmkmjbpcpaaW.PrintMore Go.Proofs.Ytmbmbmkmjbpcpaa.PA
theorem row_nums {W : World} {a : Option Addr} {len : Nat} (hn : len ≤ 1048576) (h : 0 < len → ∃ x, a = some x ∧ ∀ i, i < len → ∃ (b : Bool) (A : Option Addr) (l c : Nat) (zs : List Int), W.cell? (x.add (i * 2)) = some (.bool b) ∧ W.cell? (x.add (i * 2 + 1)) = some (.slice A l c) ∧ bulks.IsRow .u32 W A l c zs ∧ l ≤ 1048576) :
    ∃ xs : List S25, Kd.C k25 W a len xs ∧ len = xs.length ∧ Good xs := by
  rcases Nat.eq_zero_or_pos len with h0 | h0
  · subst h0
    exact ⟨[], ⟨rfl, by omega, fun h => absurd h (by omega)⟩, rfl, by simp, fun x hx => by simp at hx⟩
  · obtain ⟨x, rfl, hx⟩ := h h0
    have key : ∀ m, m ≤ len → ∃ xs : List S25, xs.length = m ∧ (∀ y ∈ xs, Ok y.f1 ∧ y.f1.length ≤ 1048576) ∧ ∀ j p, xs[j]? = some p → ∃ c, c.length = 2 ∧ k25.K W p c ∧ ∀ i u, c[i]? = some u → W.cell? (x.add (j * 2 + i)) = some u := by
      intro m
      induction m with
      | zero => intro _; exact ⟨[], rfl, fun y hy => by simp at hy, fun j p h => by simp at h⟩
      | succ m ih =>
        intro hm
        obtain ⟨xs, e, hok, hr⟩ := ih (by omega)
        obtain ⟨b, A, l, c, zs, k0, k1, hrow, hl⟩ := hx m (by omega)
        obtain ⟨q, ⟨A', c', e1, hc', hC⟩, ho, hq⟩ := row_rd hrow hl
        injection e1 with e2 e3 e4
        subst e2
        subst e3
        subst e4
        refine ⟨xs ++ [⟨b, q⟩], by simp [e], ?_, ?_⟩
        · intro y hy
          rcases List.mem_append.mp hy with hy | hy
          · exact hok y hy
          · rw [List.mem_singleton.mp hy]
            exact ⟨ho, hq⟩
        · intro j p hj
          by_cases hlt : j < xs.length
          · rw [List.getElem?_append_left hlt] at hj
            exact hr j p hj
          · rw [List.getElem?_append_right (by omega)] at hj
            have hj0 : j - xs.length = 0 := by
              have := (List.getElem?_eq_some_iff.mp hj).1
              simp at this
              omega
            rw [hj0] at hj
            have hp : p = ⟨b, q⟩ := by simpa using hj.symm
            subst hp
            refine ⟨_, rfl, k25_mk W ⟨b, q⟩ hc' hC, ?_⟩
            rw [show j = m by omega]
            intro i u hu
            match i, hu with
            | 0, hu =>
              have : u = .bool b := by simpa using hu.symm
              rw [this]
              exact k0
            | 1, hu =>
              have : u = .slice A q.length c := by simpa using hu.symm
              rw [this]
              exact k1
            | i + 2, hu => simp at hu
    obtain ⟨xs, e, hok, hr⟩ := key len (Nat.le_refl _)
    exact ⟨xs, ⟨e, by omega, fun _ => ⟨x, rfl, hr⟩⟩, e.symm, by omega, hok⟩
end Go.Proofs.Ytmbmbmkmjbpcpaa.PT

