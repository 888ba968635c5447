/- Superblocks as bytes (own work): plain facts. -/
import Derived.Test.YtjiojffakejgjaaCc
set_option linter.unusedVariables false
namespace Go.Sl
abbrev supV (v : Nat) (now : Int) (top : Nat) : Value := .agg #[.int .u64 (v : Int), .int .i64 now, .int .u64 (top : Int)]
def mayS (now : Int) (top : Nat) : Bool := decide (0 ≤ now) && decide (now ≤ 1073741824) && decide (top ≤ 65535)
theorem mayS_spec {now : Int} {top : Nat} (h : mayS now top = true) : 0 ≤ now ∧ now ≤ 1073741824 ∧ top ≤ 65535 := by
  simp [mayS] at h; omega
/-- A super's bytes. -/
def enc (v : Nat) (now : Int) (top : Nat) : List UInt8 := be v 8 ++ (be now.toNat 4 ++ be top 2)
theorem enc_length (v : Nat) (now : Int) (top : Nat) : (enc v now top).length = 14 := by simp [enc, be_length]
/-- What is read of 14 bytes. -/
def dV (u : List UInt8) : Nat := val ((u.drop 0).take 8)
def dN (u : List UInt8) : Nat := val ((u.drop 8).take 4)
def dT (u : List UInt8) : Nat := val ((u.drop 12).take 2)
theorem dT_le (u : List UInt8) : dT u ≤ 65535 := by
  have h := val_lt ((u.drop 12).take 2)
  have h2 : (256 : Nat) ^ ((u.drop 12).take 2).length ≤ 256 ^ 2 := Nat.pow_le_pow_right (by decide) (by simp; omega)
  unfold dT; omega
theorem dN_lt (u : List UInt8) : dN u < 4294967296 := by
  have h := val_lt ((u.drop 8).take 4)
  have h2 : (256 : Nat) ^ ((u.drop 8).take 4).length ≤ 256 ^ 4 := Nat.pow_le_pow_right (by decide) (by simp; omega)
  unfold dN; omega
theorem dV_lt (u : List UInt8) : dV u < 18446744073709551616 := by
  have h := val_lt ((u.drop 0).take 8)
  have h2 : (256 : Nat) ^ ((u.drop 0).take 8).length ≤ 256 ^ 8 := Nat.pow_le_pow_right (by decide) (by simp; omega)
  unfold dV; omega
theorem mayS_d (u : List UInt8) : mayS (dN u : Int) (dT u) = decide (dN u ≤ 1073741824) := by
  have := dT_le u
  rw [Bool.eq_iff_iff]; simp [mayS]; omega
theorem d_enc {v : Nat} {now : Int} {top : Nat} (hv : v < 18446744073709551616) (h : mayS now top = true) : dV (enc v now top) = v ∧ (dN (enc v now top) : Int) = now ∧ dT (enc v now top) = top := by
  obtain ⟨h0, h1, h2⟩ := mayS_spec h
  have e0 : ((enc v now top).drop 0).take 8 = be v 8 := by simp [enc, List.take_left' (be_length v 8)]
  have e1 : ((enc v now top).drop 8).take 4 = be now.toNat 4 := by
    rw [enc, List.drop_left' (be_length v 8), List.take_left' (be_length _ 4)]
  have e2 : ((enc v now top).drop 12).take 2 = be top 2 := by
    rw [show (12 : Nat) = 8 + 4 from rfl, ← List.drop_drop, enc, List.drop_left' (be_length v 8), List.drop_left' (be_length _ 4), List.take_of_length_le (by simp [be_length])]
  unfold dV dN dT
  rw [e0, e1, e2, val_be, val_be, val_be]
  refine ⟨by omega, ?_, by omega⟩
  omega
/-- What Decode tells. -/
def gOk (u : List UInt8) : Bool := decide (dN u ≤ 1073741824)
def gV (u : List UInt8) : Nat := if dN u ≤ 1073741824 then dV u else 0
def gN (u : List UInt8) : Nat := if dN u ≤ 1073741824 then dN u else 0
def gT (u : List UInt8) : Nat := if dN u ≤ 1073741824 then dT u else 0
end Go.Sl
