/- walks (own work; the walks' lines by a program of this repo). -/
import Derived.Test.YtoaalclbplgegaaMv
import Derived.Test.YtoaalclbplgegaaSaW
set_option linter.unusedVariables false
set_option linter.unusedSimpArgs false
set_option maxRecDepth 20000
namespace Go.Proofs.Ytoaalclbplgegaa
open Go.Sl
attribute [local irreducible] BodyQ WpC WpL WpS WpH OpW FnS


theorem allg_v {w0 : World} {H : Hp} {gv : Value} {D : Duo} {A : Da} {m : Mi} {K : Nat} {X Y : List Sec} {k0 k1 mb bx bys bp : Nat} (h : Ms dt gv D A m K X Y k0 k1 mb bx bys bp) {p : Int → Sec → Bool} (hG : GoodAt Try.prog w0 H gv p) (hK : K ≤ 4096) (h0 : k0 ≤ 50000) (h1 : k1 ≤ 50000) {r : Rp} (hr : rK p X Y K = r) : FnS Try.prog w0 16 #[ptr mb] (m.seg 109 :: D.seg dt :: H) (fun e H' => e = .returned (.agg [Value.int .i64 r.1, .int .i64 r.2.1, .int .i64 r.2.2].toArray) ∧ ∃ D' A' m', Ms dt gv D' A' m' K (XK p X Y K K) (YK p X Y K K) (k0 + K) (k1 + K) mb bx bys bp ∧ H' = m'.seg 109 :: D'.seg dt :: H) := by
  have hT : Two dt D A m.bx m.bys bp := by rw [h.bx, h.bys]; exact h.two
  rw [← h.mb]
  refine (sall_m hT (p := p) (by rw [h.gv]; exact hG) (fun i => h.many h0 h1 i) (by rw [h.n]; exact hK)).mono ?_
  rintro _ _ ⟨rfl, D', hT', rfl⟩
  obtain ⟨e2, h2⟩ := h.scr hT'
  rw [e2, hr]
  rw [h.mb] at *
  exact ⟨rfl, D', _, _, h2, rfl⟩

end Go.Proofs.Ytoaalclbplgegaa
