/- Slices of bytes, joined (own work): plain facts. -/
import Derived.Test.YtjiojffakejgjaaWi
set_option linter.unusedVariables false
namespace Go.Sl
/-- A part: where it lies, its capacity, its bytes. -/
abbrev Part := Option Addr × Nat × List UInt8
def pv (p : Part) : Value := .slice p.1 p.2.2.length p.2.1
def cat (ps : List Part) : List UInt8 := (ps.map fun p => p.2.2).flatten
theorem cat_take {ps : List Part} {i : Nat} {p : Part} (h : ps[i]? = some p) : cat (ps.take (i + 1)) = cat (ps.take i) ++ p.2.2 := by
  have hlt : i < ps.length := (List.getElem?_eq_some_iff.1 h).1
  have e : ps[i] = p := (List.getElem?_eq_some_iff.1 h).2
  rw [List.take_succ_eq_append_getElem hlt, e]
  simp [cat]
theorem cat_le (ps : List Part) (i : Nat) : (cat (ps.take i)).length ≤ (cat ps).length := by
  have : cat ps = cat (ps.take i) ++ cat (ps.drop i) := by
    unfold cat
    rw [← List.flatten_append, ← List.map_append, List.take_append_drop]
  rw [this]; simp
theorem part_get {ps : List Part} {i : Nat} {p : Part} (h : ps[i]? = some p) : (ps.map pv)[0 + ((i : Nat) : Int).toNat * 1]? = some (pv p) := by simp [h]
end Go.Sl
