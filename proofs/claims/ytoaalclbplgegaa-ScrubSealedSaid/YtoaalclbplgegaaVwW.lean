/- walks (own work; the walks' lines by a program of this repo). -/
import Derived.Test.YtoaalclbplgegaaMv
import Derived.Test.YtoaalclbplgegaaMfW
set_option linter.unusedVariables false
set_option linter.unusedSimpArgs false
set_option maxRecDepth 20000
namespace Go.Proofs.Ytoaalclbplgegaa
open Go.Sl
attribute [local irreducible] BodyQ WpC WpL WpS WpH OpW FnS


theorem write_v {w0 : World} {H : Hp} {gv : Value} {D : Duo} {A : Da} {m : Mi} {K : Nat} {X Y : List Sec} {k0 k1 mb bx bys bp : Nat} (h : Ms dt gv D A m K X Y k0 k1 mb bx bys bp) {n : Nat} {s : Sec} (hn : n < K) (hs : s.length = 128) (h0 : k0 < 99990) (h1 : k1 < 99990) : FnS Try.prog w0 27 #[ptr mb, .int .i64 (n : Int), .agg (bs s).toArray] (m.seg 109 :: D.seg dt :: H) (fun e H' => e = .returned (.int .i64 0) ∧ ∃ D' A', Ms dt gv D' A' m K (X.set n s) (Y.set n s) (k0 + 1) (k1 + 1) mb bx bys bp ∧ H' = m.seg 109 :: D'.seg dt :: H) := by
  have hT : Two dt D A m.bx m.bys bp := by rw [h.bx, h.bys]; exact h.two
  obtain ⟨e0, e1, v⟩ := h.vw.put (m := m) h.n h.s0 h.s1 hn hs (askok_all K n s)
  have hq : ∀ i, (A.dev i).Q.length < 99990 := fun i => by cases i; exact Nat.lt_of_le_of_lt (h.vw.dev false).many h0; exact Nat.lt_of_le_of_lt (h.vw.dev true).many h1
  have := mwrite_m (w0 := w0) (H := H) hT (n : Int) s hs hq
  rw [e0, e1, h.mb, h.bx, h.bys] at this
  refine this.mono ?_
  rintro _ _ ⟨rfl, D', hT', rfl⟩
  exact ⟨rfl, D', _, h.with hT' v (set_ok2 h.okX hs) (set_ok2 h.okY hs), rfl⟩

theorem flush_v {w0 : World} {H : Hp} {gv : Value} {D : Duo} {A : Da} {m : Mi} {K : Nat} {X Y : List Sec} {k0 k1 mb bx bys bp : Nat} (h : Ms dt gv D A m K X Y k0 k1 mb bx bys bp) : FnS Try.prog w0 34 #[ptr mb] (m.seg 109 :: D.seg dt :: H) (fun e H' => e = .returned (.int .i64 0) ∧ ∃ D' A', Ms dt gv D' A' m K X Y 0 0 mb bx bys bp ∧ H' = m.seg 109 :: D'.seg dt :: H) := by
  have hT : Two dt D A m.bx m.bys bp := by rw [h.bx, h.bys]; exact h.two
  obtain ⟨e0, v⟩ := h.vw.mfl
  have := mflush_m (w0 := w0) (H := H) hT
  rw [e0, h.mb, h.bx, h.bys] at this
  refine this.mono ?_
  rintro _ _ ⟨rfl, D', hT', rfl⟩
  exact ⟨rfl, D', _, h.with hT' v h.okX h.okY, rfl⟩

end Go.Proofs.Ytoaalclbplgegaa
