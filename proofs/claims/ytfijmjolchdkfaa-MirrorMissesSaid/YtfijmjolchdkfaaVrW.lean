/- walks (own work; the walks' lines by a program of this repo). -/
import Derived.Test.YtfijmjolchdkfaaMv
import Derived.Test.YtfijmjolchdkfaaSc
import Derived.Test.YtfijmjolchdkfaaMeW
set_option linter.unusedVariables false
set_option linter.unusedSimpArgs false
set_option maxRecDepth 20000
namespace Go.Proofs.Ytfijmjolchdkfaa
open Go.Sl
attribute [local irreducible] BodyQ WpC WpL WpS WpH OpW FnS


theorem readg_v {w0 : World} {H : Hp} {gv : Value} {D : Duo} {A : Da} {m : Mi} {K : Nat} {X Y : List Sec} {k0 k1 mb bx bys bp : Nat} (h : Ms dt gv D A m K X Y k0 k1 mb bx bys bp) {p : Int → Sec → Bool} (hG : GoodAt Try.prog w0 H gv p) {n : Nat} {s t : Sec} (hs : X[n]? = some s) (ht : Y[n]? = some t) : FnS Try.prog w0 22 #[ptr mb, .int .i64 (n : Int)] (m.seg 104 :: D.seg dt :: H) (fun e H' => e = .returned (.tuple #[.agg (bs (rdv p n s t)).toArray, .int .i64 (rde p n s t)]) ∧ H' = m.seg 104 :: D.seg dt :: H) := by
  have hT : Two dt D A m.bx m.bys bp := by rw [h.bx, h.bys]; exact h.two
  have := mread_m (w0 := w0) (H := H) hT (p := p) (by rw [h.gv]; exact hG) (n : Int)
  rw [(h.rd hs ht).1, (h.rd hs ht).2, h.mb] at this
  exact this

end Go.Proofs.Ytfijmjolchdkfaa
