/- walks (own work; the walks' lines by a program of this repo). -/
import Derived.Test.YtfijmjolchdkfaaMv
import Derived.Test.YtfijmjolchdkfaaMhW
set_option linter.unusedVariables false
set_option linter.unusedSimpArgs false
set_option maxRecDepth 20000
namespace Go.Proofs.Ytfijmjolchdkfaa
open Go.Sl
attribute [local irreducible] BodyQ WpC WpL WpS WpH OpW FnS


theorem healg_v {w0 : World} {H : Hp} {gv : Value} {D : Duo} {A : Da} {m : Mi} {K : Nat} {X Y : List Sec} {k0 k1 mb bx bys bp : Nat} (h : Ms dt gv D A m K X Y k0 k1 mb bx bys bp) {p : Int → Sec → Bool} (hG : GoodAt Try.prog w0 H gv p) {n : Nat} {s t : Sec} (hs : X[n]? = some s) (ht : Y[n]? = some t) (h0 : k0 < 99990) (h1 : k1 < 99990) : FnS Try.prog w0 23 #[ptr mb, .int .i64 (n : Int)] (m.seg 104 :: D.seg dt :: H) (fun e H' => e = .returned (.tuple #[.int .i64 (hC p n s t), .int .i64 0]) ∧ ∃ D' A' m', Ms dt gv D' A' m' K (X.set n (hX p n s t)) (Y.set n (hY p n s t)) (k0 + 1) (k1 + 1) mb bx bys bp ∧ H' = m'.seg 104 :: D'.seg dt :: H) := by
  have hT : Two dt D A m.bx m.bys bp := by rw [h.bx, h.bys]; exact h.two
  have hq : ∀ i, (A.dev i).Q.length < 99990 := fun i => by cases i; exact Nat.lt_of_le_of_lt (h.vw.dev false).many h0; exact Nat.lt_of_le_of_lt (h.vw.dev true).many h1
  have ls := h.okX s (List.mem_of_getElem? hs)
  have lt := h.okY t (List.mem_of_getElem? ht)
  obtain ⟨r, z0, z1, v⟩ := h.vw.heal (p := p) h.n h.s0 h.s1 hs ht ls lt
  have := heal_m (w0 := w0) (H := H) hT (p := p) (by rw [h.gv]; exact hG) (n : Int) hq
  rw [r, h.mb] at this
  refine this.mono ?_
  rintro _ _ ⟨rfl, D', hT', rfl⟩
  obtain ⟨q1, q2, q3, q4, q5⟩ := healM_same m A p n
  rw [h.bx, h.bys] at hT'
  exact ⟨rfl, D', _, _, ⟨hT', v, q1.trans h.mb, q2.trans h.bx, q3.trans h.bys, q4.trans h.n, z0, z1, q5.trans h.gv, set_ok2 h.okX (hX_len ls lt), set_ok2 h.okY (hY_len ls lt)⟩, rfl⟩

end Go.Proofs.Ytfijmjolchdkfaa
