/- Rows over a slice of deeds (own work). -/
import Derived.Test.YtjiojffakejgjaaRg
import Derived.Test.YtjiojffakejgjaaDw
set_option linter.unusedVariables false
namespace Go.Sl
open Go.RowKit
theorem fits_deed {cs : List Value} (h : Fits [.int .i64, .int .i64, .int .i64, .int .i64, .int .u8] cs) : ∃ x, cs = dcells x := by
  obtain ⟨_, _, rfl, ⟨a, rfl, _⟩, g1⟩ := Fits.cons_iff.1 h
  obtain ⟨_, _, rfl, ⟨b, rfl, _⟩, g2⟩ := Fits.cons_iff.1 g1
  obtain ⟨_, _, rfl, ⟨c, rfl, _⟩, g3⟩ := Fits.cons_iff.1 g2
  obtain ⟨_, _, rfl, ⟨d, rfl, _⟩, g4⟩ := Fits.cons_iff.1 g3
  obtain ⟨_, _, rfl, ⟨e, rfl, he⟩, g5⟩ := Fits.cons_iff.1 g4
  obtain rfl := Fits.nil_iff.1 g5
  have hb := bounds_u8 he
  refine ⟨⟨a, b, c, d, UInt8.ofNat e.toNat⟩, ?_⟩
  simp [dcells]
  omega
theorem in_deeds {w : World} {a : Option Addr} {len cap : Nat} (h : InS w [.int .i64, .int .i64, .int .i64, .int .i64, .int .u8] a len cap) : ∃ ds : List DeedM, len = ds.length ∧ Holds w [] a (deeds ds) := by
  rcases h with ⟨rfl, rfl, rfl⟩ | ⟨x, rfl, h1, h2, h3⟩
  · exact ⟨[], rfl, fun hp => by simp [deeds] at hp⟩
  · rcases Nat.eq_zero_or_pos len with rfl | hp
    · exact ⟨[], rfl, fun hp => by simp [deeds] at hp⟩
    · obtain ⟨b, off, l, T, fr, rfl, hb, hl, hf⟩ := h3 hp
      obtain ⟨ds, hd, ht⟩ := inS_rows (w := w) (f := dcells) (fun cs hc => fits_deed hc) hl hf
      refine ⟨ds, hd.symm, fun _ => ⟨b, off, l, T, fr, rfl, sees_old hb, ?_, ?_⟩⟩
      · rw [deeds_len, hd]; exact hl
      · rw [deeds_len, hd]; exact ht
end Go.Sl
