/- walks (own work; the walks' lines by a program of this repo). -/
import Derived.Test.YtoaalclbplgegaaSmW
import Derived.Test.YtoaalclbplgegaaMbW
import Derived.Test.YtoaalclbplgegaaMeW
set_option linter.unusedVariables false
set_option linter.unusedSimpArgs false
set_option maxRecDepth 20000
namespace Go.Proofs.Ytoaalclbplgegaa
open Go.Sl
attribute [local irreducible] BodyQ WpC WpL WpS WpH OpW FnS


theorem both_v {w0 : World} {H : Hp} {D : Duo} {A : Da} {m : Mi} {K : Nat} {X Y : List Sec} {k0 k1 mb bx bys bp : Nat} (h : Ms dt (.func (.func 26) #[] ([] : List Value).toArray) D A m K X Y k0 k1 mb bx bys bp) {n : Nat} {s t : Sec} (hs : X[n]? = some s) (ht : Y[n]? = some t) : FnS Try.prog w0 24 #[ptr mb, .int .i64 (n : Int)] (m.seg 109 :: D.seg dt :: H) (fun e H' => ∃ g, slOk 128 g (gl goodP n s t).length (bs (gl goodP n s t).flatten) ∧ e = .returned (slV g (gl goodP n s t).length) ∧ H' = slSeg 37 g (bs (gl goodP n s t).flatten) :: m.seg 109 :: D.seg dt :: H) := by
  have hT : Two dt D A m.bx m.bys bp := by rw [h.bx, h.bys]; exact h.two
  have := both_m (w0 := w0) (H := H) hT (ms_good h.gv) (n : Int)
  rw [h.both hs ht, h.mb] at this
  exact this

theorem mread_v {w0 : World} {H : Hp} {D : Duo} {A : Da} {m : Mi} {K : Nat} {X Y : List Sec} {k0 k1 mb bx bys bp : Nat} (h : Ms dt (.func (.func 26) #[] ([] : List Value).toArray) D A m K X Y k0 k1 mb bx bys bp) {n : Nat} {s t : Sec} (hs : X[n]? = some s) (ht : Y[n]? = some t) : FnS Try.prog w0 25 #[ptr mb, .int .i64 (n : Int)] (m.seg 109 :: D.seg dt :: H) (fun e H' => e = .returned (.tuple #[.agg (bs (rdv goodP n s t)).toArray, .int .i64 (rde goodP n s t)]) ∧ H' = m.seg 109 :: D.seg dt :: H) := by
  have hT : Two dt D A m.bx m.bys bp := by rw [h.bx, h.bys]; exact h.two
  have := mread_m (w0 := w0) (H := H) hT (ms_good h.gv) (n : Int)
  rw [(h.rd hs ht).1, (h.rd hs ht).2, h.mb] at this
  exact this

theorem mread_out {w0 : World} {H : Hp} {D : Duo} {A : Da} {m : Mi} {K : Nat} {X Y : List Sec} {k0 k1 mb bx bys bp : Nat} (h : Ms dt (.func (.func 26) #[] ([] : List Value).toArray) D A m K X Y k0 k1 mb bx bys bp) (i : Bool) {D' : Duo} (hT : Two dt D' (A.setd i ((A.dev i).outs true)) m.bx m.bys bp) {n : Nat} {u : Sec} (hu : (pick2 (!i) X Y)[n]? = some u) : FnS Try.prog w0 25 #[ptr mb, .int .i64 (n : Int)] (m.seg 109 :: D'.seg dt :: H) (fun e H' => e = .returned (.tuple #[.agg (bs (if goodP n u then u else secOf 0)).toArray, .int .i64 (if goodP n u then 0 else 9)]) ∧ H' = m.seg 109 :: D'.seg dt :: H) := by
  have := mread_m (w0 := w0) (H := H) hT (ms_good h.gv) (n : Int)
  rw [(h.rd1 i hu).1, (h.rd1 i hu).2, h.mb] at this
  exact this

end Go.Proofs.Ytoaalclbplgegaa
