/- walks (own work; the walks' lines by a program of this repo). -/
import Derived.Test.YtoaalclbplgegaaMv
import Derived.Test.YtoaalclbplgegaaMnW
set_option linter.unusedVariables false
set_option linter.unusedSimpArgs false
set_option maxRecDepth 20000
namespace Go.Proofs.Ytoaalclbplgegaa
open Go.Sl
attribute [local irreducible] BodyQ WpC WpL WpS WpH OpW FnS


theorem new_v {w0 : World} {H : Hp} {f : Nat} {cap : List Value} {D : Duo} {A : Da} {K : Nat} {X Y : List Sec} {k0 k1 bx bys bp : Nat} (hT : Two dt D A bx bys bp) (hv : Vw A K X Y k0 k1) (hX : ∀ s ∈ X, s.length = 128) (hY : ∀ s ∈ Y, s.length = 128) : FnS Try.prog w0 31 #[ptr bx, ptr bys, .func (.func f) #[] cap.toArray] (D.seg dt :: H) (fun e H' => ∃ mb m, Ms dt (.func (.func f) #[] cap.toArray) D A m K X Y k0 k1 mb bx bys bp ∧ e = .returned (ptr mb) ∧ H' = m.seg 109 :: D.seg dt :: H) := by
  refine (mnew_fn hT).mono ?_
  rintro _ _ ⟨b, r0, r1, rfl, rfl⟩
  exact ⟨b, _, Ms.new hT hv b r0 r1 hX hY, rfl, rfl⟩

end Go.Proofs.Ytoaalclbplgegaa
