/- From a row's reading of a slice of bytes to what a walk asks (own work). -/
import Derived.Test.YtoaalclbplgegaaSlF
import Derived.ShutString
import Derived.OpenShut
set_option linter.unusedVariables false
namespace Go.Sl
open Go.RowKit
theorem row_block {w : World} {x : Addr} {cap : Nat} {k : IntKind} {zs : List Int} (hlen : zs.length = cap) (hc : ∀ i, i < zs.length → w.cell? (x.add i) = some (.int k (zs.getD i 0))) (hp : 0 < cap) :
    ∃ (b off : Nat) (l : List Value) (T : TypeId) (fr : Nat × Nat), x = ⟨b, off, none⟩ ∧ w.heap[b]? = some (.cells l.toArray T fr) ∧ off + cap ≤ l.length ∧ (l.drop off).take cap = zs.map (Value.int k) := by
  obtain ⟨b, off, spot⟩ := x
  have h0 := hc 0 (by omega)
  rw [show (⟨b, off, spot⟩ : Addr).add 0 = ⟨b, off, spot⟩ from by simp [Addr.add]] at h0
  have hspot : spot = none := by
    unfold World.cell? at h0
    cases spot with
    | none => rfl
    | some s => split at h0 <;> simp at h0
  subst hspot
  cases hb : w.heap[b]? with
  | none => simp [World.cell?, hb] at h0
  | some o =>
    cases o with
    | cells c T fr =>
      have hcell : ∀ i, i < zs.length → c.toList[off + i]? = some (.int k (zs.getD i 0)) := fun i hi => by
        have h := hc i hi
        rw [addr_add] at h
        simpa [World.cell?, hb] using h
      have hl : off + cap ≤ c.toList.length := by
        have h := hcell (cap - 1) (by omega)
        have := (List.getElem?_eq_some_iff.1 h).1
        omega
      refine ⟨b, off, c.toList, T, fr, rfl, hb, hl, ?_⟩
      apply List.ext_getElem?
      intro i
      by_cases hi : i < cap
      · rw [List.getElem?_take_of_lt hi, List.getElem?_drop, hcell i (by omega)]
        simp [List.getD, List.getElem?_eq_getElem (show i < zs.length by omega)]
      · rw [List.getElem?_eq_none (by simp; omega), List.getElem?_eq_none (by simp; omega)]
    | _ => simp [World.cell?, hb] at h0
theorem u8s {zs : List Int} (h : ∀ n ∈ zs, (Lit.int .u8 n).wf = true) : zs.map (Value.int .u8) = bs (zs.map fun z => UInt8.ofNat z.toNat) := by
  simp only [bs, List.map_map]
  apply List.map_congr_left
  intro z hz
  have hb := bounds_u8 (h z hz)
  simp only [Function.comp]
  exact u8_of_int (by omega) (by omega)
/-- A slice of bytes that came in. -/
theorem row_bytes {w : World} {a : Option Addr} {len cap : Nat} {zs : List Int} (hl : 0 < len) (h : (a = none ∧ len = 0 ∧ cap = 0 ∧ zs = []) ∨
    ∃ x, a = some x ∧ len ≤ cap ∧ cap ≤ maxLen ∧ zs.length = cap ∧ (∀ i, i < zs.length → w.cell? (x.add i) = some (.int .u8 (zs.getD i 0))) ∧ ∀ n ∈ zs, (Lit.int .u8 n).wf = true) :
    ∃ (b off : Nat) (l : List Value) (T : TypeId) (fr : Nat × Nat) (u : List UInt8), a = some ⟨b, off, none⟩ ∧ w.heap[b]? = some (.cells l.toArray T fr) ∧ off + len ≤ l.length ∧ (l.drop off).take len = bs u ∧ u.length = len ∧ len ≤ cap := by
  rcases h with ⟨_, h, _⟩ | ⟨x, rfl, h1, h2, h3, h4, h5⟩
  · omega
  · obtain ⟨b, off, l, T, fr, rfl, hb, hle, ht⟩ := row_block h3 h4 (by omega)
    refine ⟨b, off, l, T, fr, (zs.map fun z => UInt8.ofNat z.toNat).take len, rfl, hb, by omega, ?_, by simp; omega, h1⟩
    rw [← bs_take, ← u8s h5, ← ht, List.take_take]
    congr 1
    omega
end Go.Sl
