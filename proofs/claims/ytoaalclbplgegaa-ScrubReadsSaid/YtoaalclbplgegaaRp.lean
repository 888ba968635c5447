/- Rows over pairs of bytes (own work). -/
import Derived.Test.YtoaalclbplgegaaRg
import Derived.Test.YtoaalclbplgegaaSb
set_option linter.unusedVariables false
namespace Go.Sl
open Go.RowKit
theorem in_pairs {w : World} {a : Option Addr} {len cap : Nat} (h : InS w [.int .u8, .int .u8] a len cap) : ∃ u : List (UInt8 × UInt8), len = u.length ∧ Holds w [] a (bs (pb u)) := by
  rcases h with ⟨rfl, rfl, rfl⟩ | ⟨x, rfl, h1, h2, h3⟩
  · exact ⟨[], rfl, fun hp => by simp [bs, pb] at hp⟩
  · rcases Nat.eq_zero_or_pos len with rfl | hp
    · exact ⟨[], rfl, fun hp => by simp [bs, pb] at hp⟩
    · obtain ⟨b, off, l, T, fr, rfl, hb, hl, hf⟩ := h3 hp
      have hone : ∀ cs, Fits [.int .u8, .int .u8] cs → ∃ x : UInt8 × UInt8, cs = (fun x : UInt8 × UInt8 => bs [x.1, x.2]) x := fun cs hc => by
        obtain ⟨u, rfl, hu⟩ := Fits.bytes (n := 2) hc
        match u, hu with
        | [x, y], _ => exact ⟨(x, y), rfl⟩
      obtain ⟨ds, hd, ht⟩ := inS_rows (w := w) (f := fun x : UInt8 × UInt8 => bs [x.1, x.2]) hone hl hf
      have he : (ds.map fun x : UInt8 × UInt8 => bs [x.1, x.2]).flatten = bs (pb ds) := by
        clear ht hd
        induction ds with
        | nil => rfl
        | cons x ds ih => rw [List.map_cons, List.flatten_cons, ih]; rfl
      rw [he] at ht
      refine ⟨ds, hd.symm, fun _ => ⟨b, off, l, T, fr, rfl, sees_old hb, ?_, ?_⟩⟩
      · rw [bs_length, pb_len, hd]; simp at hl; omega
      · rw [bs_length, pb_len, hd]; simp at ht; rw [Nat.mul_comm]; exact ht
end Go.Sl
