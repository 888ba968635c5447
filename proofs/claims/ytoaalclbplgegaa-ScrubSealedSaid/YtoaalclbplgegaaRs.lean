/- Rows over bytes (own work). -/
import Derived.Test.YtoaalclbplgegaaRg
import Derived.Test.YtoaalclbplgegaaXc
set_option linter.unusedVariables false
namespace Go.Sl
open Go.RowKit
theorem in_byts {w : World} {a : Option Addr} {len cap : Nat} (h : InS w [.int .u8] a len cap) : ∃ u : List UInt8, len = u.length ∧ Holds w [] a (bs u) := by
  rcases h with ⟨rfl, rfl, rfl⟩ | ⟨x, rfl, h1, h2, h3⟩
  · exact ⟨[], rfl, fun hp => by simp [bs] at hp⟩
  · rcases Nat.eq_zero_or_pos len with rfl | hp
    · exact ⟨[], rfl, fun hp => by simp [bs] at hp⟩
    · obtain ⟨b, off, l, T, fr, rfl, hb, hl, hf⟩ := h3 hp
      have hone : ∀ cs, Fits [.int .u8] cs → ∃ x : UInt8, cs = (fun b => [u8 b]) x := fun cs hc => by
        obtain ⟨u, rfl, hu⟩ := Fits.bytes (n := 1) hc
        match u, hu with
        | [x], _ => exact ⟨x, rfl⟩
      obtain ⟨ds, hd, ht⟩ := inS_rows (w := w) (f := fun b : UInt8 => [u8 b]) hone hl hf
      have he : (ds.map fun b => [u8 b]).flatten = bs ds := by
        clear ht hd
        induction ds with
        | nil => rfl
        | cons x ds ih => rw [List.map_cons, List.flatten_cons, ih]; rfl
      rw [he] at ht
      refine ⟨ds, hd.symm, fun _ => ⟨b, off, l, T, fr, rfl, sees_old hb, ?_, ?_⟩⟩
      · rw [bs_length, hd]; simpa using hl
      · rw [bs_length, hd]; simpa using ht
end Go.Sl
