/- walks (own work; the walks' lines by a program of this repo). -/
import Derived.Test.YtoaalclbplgegaaMv
import Derived.Test.YtoaalclbplgegaaDuW
set_option linter.unusedVariables false
set_option linter.unusedSimpArgs false
set_option maxRecDepth 20000
namespace Go.Proofs.Ytoaalclbplgegaa
open Go.Sl
attribute [local irreducible] BodyQ WpC WpL WpS WpH OpW FnS


theorem dwrite_v {w0 : World} {H : Hp} {D : Duo} {A : Da} {K : Nat} {X Y : List Sec} {k0 k1 bx bys bp : Nat} (hT : Two dt D A bx bys bp) (hv : Vw A K X Y k0 k1) (i : Bool) {n : Nat} {s : Sec} (hn : n < K) (hs : s.length = 128) (h0 : k0 < 99990) (h1 : k1 < 99990) : FnS Try.prog w0 41 #[ptr (sel bx bys i), .int .i64 (n : Int), .agg (bs s).toArray] (D.seg dt :: H) (fun e H' => e = .returned (.int .i64 0) ∧ ∃ D' A', Two dt D' A' bx bys bp ∧ Vw A' K (if i then X else X.set n s) (if i then Y.set n s else Y) (if i then k0 else k0 + 1) (if i then k1 + 1 else k1) ∧ H' = D'.seg dt :: H) := by
  obtain ⟨e, w⟩ := hv.write (n := n) (s := s) i hn hs
  have hq : (A.dev i).Q.length < 100000 := by have := (hv.dev i).many; cases i <;> simp only [pick2, Bool.false_eq_true, if_false, if_true] at this <;> omega
  refine (write_d hT i (n : Int) s hs hq).mono ?_
  rintro _ _ ⟨rfl, D', hT', rfl⟩
  rw [e]
  exact ⟨rfl, D', _, hT', w, rfl⟩

theorem dflush_v {w0 : World} {H : Hp} {D : Duo} {A : Da} {K : Nat} {X Y : List Sec} {k0 k1 bx bys bp : Nat} (hT : Two dt D A bx bys bp) (hv : Vw A K X Y k0 k1) (i : Bool) : FnS Try.prog w0 42 #[ptr (sel bx bys i)] (D.seg dt :: H) (fun e H' => e = .returned (.int .i64 0) ∧ ∃ D' A', Two dt D' A' bx bys bp ∧ Vw A' K X Y (if i then k0 else 0) (if i then 0 else k1) ∧ H' = D'.seg dt :: H) := by
  obtain ⟨e, w⟩ := hv.flush i
  refine (flush_d hT i).mono ?_
  rintro _ _ ⟨rfl, D', hT', rfl⟩
  rw [e]
  exact ⟨rfl, D', _, hT', w, rfl⟩

theorem dreadg_v {w0 : World} {H : Hp} {gv : Value} {D : Duo} {A : Da} {m : Mi} {K : Nat} {X Y : List Sec} {k0 k1 mb bx bys bp : Nat} (h : Ms dt gv D A m K X Y k0 k1 mb bx bys bp) (i : Bool) {n : Nat} {s : Sec} (hs : (pick2 i X Y)[n]? = some s) : FnS Try.prog w0 19 #[ptr (sel bx bys i), .int .i64 (n : Int)] (D.seg dt :: H) (fun e H' => e = .returned (.tuple #[.agg (bs s).toArray, .int .i64 0]) ∧ H' = D.seg dt :: H) := by
  refine (read_d h.two i (n : Int)).mono ?_
  rintro _ _ ⟨rfl, rfl⟩
  rw [(h.vw.reads i hs).1, (h.vw.reads i hs).2]
  exact ⟨rfl, rfl⟩

theorem rotg_v {w0 : World} {H : Hp} {gv : Value} {D : Duo} {A : Da} {m : Mi} {K : Nat} {X Y : List Sec} {mb bx bys bp : Nat} (h : Ms dt gv D A m K X Y 0 0 mb bx bys bp) (i : Bool) {n j : Nat} {s : Sec} {c : UInt8} (hs : (pick2 i X Y)[n]? = some s) (hj : j < 128) : FnS Try.prog w0 35 #[ptr (sel bx bys i), .int .i64 (n : Int), .int .i64 (j : Int), .int .u8 (c.toNat : Int)] (D.seg dt :: H) (fun e H' => e = .returned (.bool true) ∧ ∃ D' A', Ms dt gv D' A' m K (if i then X else X.set n (rotB s j c)) (if i then Y.set n (rotB s j c) else Y) 0 0 mb bx bys bp ∧ H' = D'.seg dt :: H) := by
  obtain ⟨e, v⟩ := h.vw.rot (c := c) hs hj
  refine (rot_d h.two i (n : Int) (j : Int) c).mono ?_
  rintro _ _ ⟨rfl, D', hT', rfl⟩
  rw [e]
  have ls : s.length = 128 := by cases i; exact h.okX s (List.mem_of_getElem? hs); exact h.okY s (List.mem_of_getElem? hs)
  refine ⟨rfl, D', _, h.with hT' v ?_ ?_, rfl⟩
  · cases i
    · exact set_ok2 h.okX (rotB_len.trans ls)
    · exact h.okX
  · cases i
    · exact h.okY
    · exact set_ok2 h.okY (rotB_len.trans ls)

end Go.Proofs.Ytoaalclbplgegaa
